/- The law FnExactParams answers true at every two styles. -/
import Derived.Test.YtnkoppgbbmeknaaMFnExactParamsx7
import Derived.Test.YtnkoppgbbmeknaaAimFnExactParams
namespace Go.Proofs.Ytnkoppgbbmeknaa.Pure
open Go.RowKit Go.Proofs.Ytnkoppgbbmeknaa.PFnExactParams Go.Proofs.YtnkoppgbbmeknaaW.PrintWords Go.Proofs.YtnkoppgbbmeknaaW.PrintLast
set_option linter.unusedVariables false
set_option linter.unusedSimpArgs false

theorem w64 {x : Int} (h0 : -9223372036854775808 ≤ x) (h1 : x ≤ 9223372036854775807) : wrap64 x = x := by unfold wrap64; omega
theorem wf64 {x : Int} : (Lit.int .i64 x).wf = true ↔ -9223372036854775808 ≤ x ∧ x ≤ 9223372036854775807 := by
  simp [Lit.wf, IntKind.min, IntKind.max, IntKind.signed, IntKind.bits]
theorem wf8 {x : Int} : (Lit.int .u8 x).wf = true ↔ 0 ≤ x ∧ x ≤ 255 := by
  simp [Lit.wf, IntKind.min, IntKind.max, IntKind.signed, IntKind.bits]
theorem ev_succ {α : Type} {g : Nat → Option α} {r : α} (h : Ev (fun k => g (k + 1)) r) : Ev g r := by
  obtain ⟨K, h⟩ := h
  refine ⟨K + 1, fun k hk => ?_⟩
  obtain ⟨m, rfl⟩ : ∃ m, k = m + 1 := ⟨k - 1, by omega⟩
  exact h m (by omega)
theorem ev_fixed {α : Type} {x : Option α} {r : α} (h : x = some r) : Ev (fun _ => x) r := ⟨0, fun _ _ => h⟩
theorem ev_eq {α : Type} {g : Nat → Option α} {r s : α} (h : Ev g r) (e : r = s) : Ev g s := e ▸ h
theorem bt0 (s : ByteArray) (i : Int) : 0 ≤ bt s i := (bt_range s i).1
theorem bt255 (s : ByteArray) (i : Int) : bt s i ≤ 255 := (bt_range s i).2
/-- Never keep an equation 'wrap64 .. = ..' in the context where omega runs: it compares them by unfolding. -/
theorem wN {x : Int} {n : Nat} (e : x = (n : Int)) (h : n < 4611686018427387904) : wrap64 x = (n : Int) := by rw [e]; exact w64 (by omega) (by omega)

theorem spec_l1In_eq (a b c : Int) : spec_l1In.f a b c = some (decide (b ≤ a) && decide (a ≤ c)) := by
  unfold spec_l1In.f
  by_cases h : a ≥ b
  · rw [if_pos h]; simp [h]
  · rw [if_neg h]; simp [show ¬ b ≤ a from h]

theorem impl_in_eq (a b c : Int) : impl_in.f a b c = some (decide (b ≤ a) && decide (a ≤ c)) := by
  unfold impl_in.f
  by_cases h : b ≤ a
  · rw [if_pos h]; simp [h]
  · rw [if_neg h]; simp [h]

def sokv (a b : Int) : Bool := (decide (0 ≤ a) && decide (a ≤ 8)) && (decide (0 ≤ b) && decide (b ≤ 8))
theorem spec_StyleOk_eq (a b : Int) (c d e : Bool) : spec_StyleOk.f a b c d e = some (sokv a b) := by
  simp only [spec_StyleOk.f, spec_l1In_eq, Option.bind_some, sokv]
  by_cases h : (decide (0 ≤ a) && decide (a ≤ 8)) = true
  · simp [h]
  · simp [h]
theorem impl_StyleOk_eq (a b : Int) (c d e : Bool) : impl_StyleOk.f a b c d e = some (sokv a b) := by
  simp only [impl_StyleOk.f, impl_in_eq, Option.bind_some, sokv]
  by_cases h : (decide (0 ≤ a) && decide (a ≤ 8)) = true
  · simp [h]
  · simp [h]

theorem rd_nat (l : List Int) (i : Nat) : rd l (i : Int) = l.getD i 0 := by simp [rd]
theorem rd_at {l : List Int} {i : Nat} (h : i < l.length) : rd l (i : Int) = l[i] := by rw [rd_nat, List.getD_eq_getElem?_getD, List.getElem?_eq_getElem h]; rfl
theorem take_set_succ {α : Type} (l : List α) (i : Nat) (a : α) (h : i < l.length) : (l.set i a).take (i + 1) = l.take i ++ [a] := by
  rw [List.take_succ_eq_append_getElem (by simpa using h), List.take_set, List.set_eq_of_length_le (by rw [List.length_take]; omega)]
  simp

theorem ev_pos {α : Type} {c : Prop} [Decidable c] {a b : Nat → Option α} {r : α} (hc : c) (h : Ev a r) : Ev (fun k => if c then a k else b k) r := by
  obtain ⟨K, h⟩ := h
  exact ⟨K, fun k hk => by show (if c then a k else b k) = some r; rw [if_pos hc]; exact h k hk⟩
theorem ev_neg {α : Type} {c : Prop} [Decidable c] {a b : Nat → Option α} {r : α} (hc : ¬ c) (h : Ev b r) : Ev (fun k => if c then a k else b k) r := by
  obtain ⟨K, h⟩ := h
  exact ⟨K, fun k hk => by show (if c then a k else b k) = some r; rw [if_neg hc]; exact h k hk⟩
theorem ev_bind_some {α β : Type} {a : α} {f : Nat → α → Option β} {r : β} (h : Ev (fun k => f k a) r) : Ev (fun k => (some a).bind (f k)) r := h
theorem ev_bind_of {α β : Type} {x : Option α} {a : α} {f : Nat → α → Option β} {r : β} (hx : x = some a) (h : Ev (fun k => f k a) r) : Ev (fun k => x.bind (f k)) r := by
  subst hx; exact h

def pflag (x y : Bool) (on off : Int) : List Int := if (x != y) = true then [if y = true then on else off] else []
def pcol (x y first : Int) : List Int := if x = y then [] else [if y = 0 then first + 9 else first + y - 1]
theorem pflag_t {x y : Bool} {on off : Int} (h : (x != y) = true) : pflag x y on off = [if y = true then on else off] := if_pos h
theorem pflag_f {x y : Bool} {on off : Int} (h : ¬ (x != y) = true) : pflag x y on off = [] := if_neg h
theorem pcol_eq {x y first : Int} (h : x = y) : pcol x y first = [] := if_pos h
theorem pcol_ne {x y first : Int} (h : ¬ x = y) : pcol x y first = [if y = 0 then first + 9 else first + y - 1] := if_neg h
theorem sokv_range {a b : Int} (h : sokv a b = true) : 0 ≤ a ∧ a ≤ 8 ∧ 0 ≤ b ∧ b ≤ 8 := by
  unfold sokv at h
  simp only [Bool.and_eq_true, decide_eq_true_eq] at h
  omega
theorem spec_l3Flag_eq (b : Bool) (on off : Int) : spec_l3Flag.f b on off = some (if b = true then on else off) := by
  unfold spec_l3Flag.f; cases b <;> rfl
theorem impl_paramOf_eq (b : Bool) (on off : Int) : impl_paramOf.f b on off = some (if b = true then on else off) := by
  unfold impl_paramOf.f; cases b <;> rfl
theorem spec_col_eq (y first : Int) (h0 : 0 ≤ y) (h1 : y ≤ 8) (f0 : 0 ≤ first) (f1 : first ≤ 100) : spec_l3Flag.f (y == 0) (first + 9) (wrap64 (first - 1 + y)) = some (if y = 0 then first + 9 else first + y - 1) := by
  rw [spec_l3Flag_eq, w64 (by omega) (by omega)]
  by_cases e : y = 0
  · rw [if_pos e, if_pos (by rw [e]; rfl)]
  · rw [if_neg e, if_neg (by rw [beq_eq_false_iff_ne.mpr e]; simp)]; congr 1; omega
theorem impl_col_eq (y first : Int) (h0 : 0 ≤ y) (h1 : y ≤ 8) (f0 : 0 ≤ first) (f1 : first ≤ 100) : impl_colorOf.f y first = some (if y = 0 then first + 9 else first + y - 1) := by
  unfold impl_colorOf.f
  rw [w64 (x := first + 9) (by omega) (by omega), w64 (x := first + y) (by omega) (by omega), w64 (x := first + y - 1) (by omega) (by omega)]
  by_cases e : y = 0
  · rw [if_pos e, if_pos e]
  · rw [if_neg e, if_neg e]
theorem spec_l3_j3 (l : List Int) (a0 a1 : Int) (a2 a3 a4 : Bool) (b0 b1 : Int) (b2 b3 b4 : Bool) (hl : l.length ≤ 10) (h : sokv b0 b1 = true) : Ev (fun k => spec_l3Params.j3 k l a0 a1 a2 a3 a4 b0 b1 b2 b3 b4) (l ++ pcol a0 b0 30 ++ pcol a1 b1 40) := by
  have hr := sokv_range h
  have e0 := spec_col_eq b0 30 hr.1 hr.2.1 (by omega) (by omega)
  have e1 := spec_col_eq b1 40 hr.2.2.1 hr.2.2.2 (by omega) (by omega)
  refine ev_succ ?_
  simp only [spec_l3Params.j3]
  by_cases q0 : a0 = b0
  · rw [pcol_eq q0, List.append_nil]
    refine ev_pos q0 ?_
    by_cases q1 : a1 = b1
    · rw [pcol_eq q1, List.append_nil]; exact ev_pos q1 (Ev.now _)
    · rw [pcol_ne q1]; exact ev_neg q1 (ev_bind_of e1 (ev_pos (by omega) (Ev.now _)))
  · rw [pcol_ne q0]
    refine ev_neg q0 (ev_bind_of e0 (ev_pos (by omega) (ev_bind_some ?_)))
    by_cases q1 : a1 = b1
    · rw [pcol_eq q1, List.append_nil]; exact ev_pos q1 (Ev.now _)
    · rw [pcol_ne q1]; exact ev_neg q1 (ev_bind_of e1 (ev_pos (by rw [List.length_append]; simp; omega) (Ev.now _)))
theorem impl_p_j3 (l : List Int) (a0 a1 : Int) (a2 a3 a4 : Bool) (b0 b1 : Int) (b2 b3 b4 : Bool) (hl : l.length ≤ 10) (h : sokv b0 b1 = true) : Ev (fun k => impl_Params.j3 k l a0 a1 a2 a3 a4 b0 b1 b2 b3 b4) (l ++ pcol a0 b0 30 ++ pcol a1 b1 40) := by
  have hr := sokv_range h
  have e0 := impl_col_eq b0 30 hr.1 hr.2.1 (by omega) (by omega)
  have e1 := impl_col_eq b1 40 hr.2.2.1 hr.2.2.2 (by omega) (by omega)
  refine ev_succ ?_
  simp only [impl_Params.j3]
  by_cases q0 : a0 = b0
  · rw [pcol_eq q0, List.append_nil]
    refine ev_pos q0 ?_
    by_cases q1 : a1 = b1
    · rw [pcol_eq q1, List.append_nil]; exact ev_pos q1 (Ev.now _)
    · rw [pcol_ne q1]; exact ev_neg q1 (ev_bind_of e1 (ev_pos (by omega) (Ev.now _)))
  · rw [pcol_ne q0]
    refine ev_neg q0 (ev_bind_of e0 (ev_pos (by omega) (ev_bind_some ?_)))
    by_cases q1 : a1 = b1
    · rw [pcol_eq q1, List.append_nil]; exact ev_pos q1 (Ev.now _)
    · rw [pcol_ne q1]; exact ev_neg q1 (ev_bind_of e1 (ev_pos (by rw [List.length_append]; simp; omega) (Ev.now _)))
theorem pflag_length (x y : Bool) (on off : Int) : (pflag x y on off).length ≤ 1 := by unfold pflag; split <;> simp
theorem pcol_length (x y first : Int) : (pcol x y first).length ≤ 1 := by unfold pcol; split <;> simp
theorem spec_l3_j2 (l : List Int) (a0 a1 : Int) (a2 a3 a4 : Bool) (b0 b1 : Int) (b2 b3 b4 : Bool) (hl : l.length ≤ 9) (h : sokv b0 b1 = true) : Ev (fun k => spec_l3Params.j2 k l a0 a1 a2 a3 a4 b0 b1 b2 b3 b4) (l ++ pflag a4 b4 7 27 ++ pcol a0 b0 30 ++ pcol a1 b1 40) := by
  refine ev_succ ?_
  simp only [spec_l3Params.j2, spec_l3Flag_eq, Option.bind_some]
  by_cases q : (a4 != b4) = true
  · rw [pflag_t q]; exact ev_pos q (ev_pos (by omega) (spec_l3_j3 _ _ _ _ _ _ _ _ _ _ _ (by simp; omega) h))
  · rw [pflag_f q, List.append_nil]; exact ev_neg q (spec_l3_j3 _ _ _ _ _ _ _ _ _ _ _ (by omega) h)
theorem impl_p_j2 (l : List Int) (a0 a1 : Int) (a2 a3 a4 : Bool) (b0 b1 : Int) (b2 b3 b4 : Bool) (hl : l.length ≤ 9) (h : sokv b0 b1 = true) : Ev (fun k => impl_Params.j2 k l a0 a1 a2 a3 a4 b0 b1 b2 b3 b4) (l ++ pflag a4 b4 7 27 ++ pcol a0 b0 30 ++ pcol a1 b1 40) := by
  refine ev_succ ?_
  simp only [impl_Params.j2, impl_paramOf_eq, Option.bind_some]
  by_cases q : (a4 != b4) = true
  · rw [pflag_t q]; exact ev_pos q (ev_pos (by omega) (impl_p_j3 _ _ _ _ _ _ _ _ _ _ _ (by simp; omega) h))
  · rw [pflag_f q, List.append_nil]; exact ev_neg q (impl_p_j3 _ _ _ _ _ _ _ _ _ _ _ (by omega) h)
theorem spec_l3_j1 (l : List Int) (a0 a1 : Int) (a2 a3 a4 : Bool) (b0 b1 : Int) (b2 b3 b4 : Bool) (hl : l.length ≤ 8) (h : sokv b0 b1 = true) : Ev (fun k => spec_l3Params.j1 k l a0 a1 a2 a3 a4 b0 b1 b2 b3 b4) (l ++ pflag a3 b3 4 24 ++ pflag a4 b4 7 27 ++ pcol a0 b0 30 ++ pcol a1 b1 40) := by
  refine ev_succ ?_
  simp only [spec_l3Params.j1, spec_l3Flag_eq, Option.bind_some]
  by_cases q : (a3 != b3) = true
  · rw [pflag_t q]; exact ev_pos q (ev_pos (by omega) (spec_l3_j2 _ _ _ _ _ _ _ _ _ _ _ (by simp; omega) h))
  · rw [pflag_f q, List.append_nil]; exact ev_neg q (spec_l3_j2 _ _ _ _ _ _ _ _ _ _ _ (by omega) h)
theorem impl_p_j1 (l : List Int) (a0 a1 : Int) (a2 a3 a4 : Bool) (b0 b1 : Int) (b2 b3 b4 : Bool) (hl : l.length ≤ 8) (h : sokv b0 b1 = true) : Ev (fun k => impl_Params.j1 k l a0 a1 a2 a3 a4 b0 b1 b2 b3 b4) (l ++ pflag a3 b3 4 24 ++ pflag a4 b4 7 27 ++ pcol a0 b0 30 ++ pcol a1 b1 40) := by
  refine ev_succ ?_
  simp only [impl_Params.j1, impl_paramOf_eq, Option.bind_some]
  by_cases q : (a3 != b3) = true
  · rw [pflag_t q]; exact ev_pos q (ev_pos (by omega) (impl_p_j2 _ _ _ _ _ _ _ _ _ _ _ (by simp; omega) h))
  · rw [pflag_f q, List.append_nil]; exact ev_neg q (impl_p_j2 _ _ _ _ _ _ _ _ _ _ _ (by omega) h)
def pdiff (a0 a1 : Int) (a2 a3 a4 : Bool) (b0 b1 : Int) (b2 b3 b4 : Bool) : List Int := pflag a2 b2 1 22 ++ pflag a3 b3 4 24 ++ pflag a4 b4 7 27 ++ pcol a0 b0 30 ++ pcol a1 b1 40
def isZero (b0 b1 : Int) (b2 b3 b4 : Bool) : Bool := b0 == 0 && (b1 == 0 && (!b2 && (!b3 && (!b4))))
def isSame (a0 a1 : Int) (a2 a3 a4 : Bool) (b0 b1 : Int) (b2 b3 b4 : Bool) : Bool := a0 == b0 && (a1 == b1 && (a2 == b2 && (a3 == b3 && (a4 == b4))))
def paramsv (a0 a1 : Int) (a2 a3 a4 : Bool) (b0 b1 : Int) (b2 b3 b4 : Bool) : List Int :=
  if (sokv a0 a1 && sokv b0 b1) = true then (if isSame a0 a1 a2 a3 a4 b0 b1 b2 b3 b4 = true then [] else if isZero b0 b1 b2 b3 b4 = true then [0] else pdiff a0 a1 a2 a3 a4 b0 b1 b2 b3 b4) else []
theorem isSame_iff (a0 a1 : Int) (a2 a3 a4 : Bool) (b0 b1 : Int) (b2 b3 b4 : Bool) : isSame a0 a1 a2 a3 a4 b0 b1 b2 b3 b4 = true ↔ a0 = b0 ∧ a1 = b1 ∧ a2 = b2 ∧ a3 = b3 ∧ a4 = b4 := by
  unfold isSame; simp only [Bool.and_eq_true, beq_iff_eq]
theorem isZero_iff (b0 b1 : Int) (b2 b3 b4 : Bool) : isZero b0 b1 b2 b3 b4 = true ↔ b0 = 0 ∧ b1 = 0 ∧ b2 = false ∧ b3 = false ∧ b4 = false := by
  unfold isZero; simp only [Bool.and_eq_true, beq_iff_eq, Bool.not_eq_true']
theorem isZero_not (a0 a1 : Int) (a2 a3 a4 : Bool) : (!(a0 == 0) || (!(a1 == 0) || (a2 || (a3 || (a4))))) = !isZero a0 a1 a2 a3 a4 := by
  unfold isZero
  cases (a0 == 0) <;> cases (a1 == 0) <;> cases a2 <;> cases a3 <;> cases a4 <;> rfl
theorem pdiff_same {a0 a1 : Int} {a2 a3 a4 : Bool} : pdiff a0 a1 a2 a3 a4 a0 a1 a2 a3 a4 = [] := by
  unfold pdiff pflag pcol
  simp
theorem pdiff_length (a0 a1 : Int) (a2 a3 a4 : Bool) (b0 b1 : Int) (b2 b3 b4 : Bool) : (pdiff a0 a1 a2 a3 a4 b0 b1 b2 b3 b4).length ≤ 5 := by
  unfold pdiff
  have h1 := pflag_length a2 b2 1 22
  have h2 := pflag_length a3 b3 4 24
  have h3 := pflag_length a4 b4 7 27
  have h4 := pcol_length a0 b0 30
  have h5 := pcol_length a1 b1 40
  simp only [List.length_append]; omega
theorem paramsv_length (a0 a1 : Int) (a2 a3 a4 : Bool) (b0 b1 : Int) (b2 b3 b4 : Bool) : (paramsv a0 a1 a2 a3 a4 b0 b1 b2 b3 b4).length ≤ 5 := by
  unfold paramsv
  have := pdiff_length a0 a1 a2 a3 a4 b0 b1 b2 b3 b4
  split
  · split
    · simp
    · split
      · simp
      · exact this
  · simp
theorem spec_l3_j0 (b : Bool) (a0 a1 : Int) (a2 a3 a4 : Bool) (b0 b1 : Int) (b2 b3 b4 : Bool) (h : sokv b0 b1 = true) : Ev (fun k => spec_l3Params.j0 k [] b a0 a1 a2 a3 a4 b0 b1 b2 b3 b4) (if b = true then [0] else pdiff a0 a1 a2 a3 a4 b0 b1 b2 b3 b4) := by
  refine ev_succ ?_
  simp only [spec_l3Params.j0, spec_l3Flag_eq, Option.bind_some]
  cases b with
  | true => exact ev_pos rfl (Ev.now _)
  | false =>
    refine ev_neg (by simp) (ev_eq (r := pdiff a0 a1 a2 a3 a4 b0 b1 b2 b3 b4) ?_ (by simp))
    unfold pdiff
    by_cases q : (a2 != b2) = true
    · rw [pflag_t q]; exact ev_pos q (ev_pos (by simp) (spec_l3_j1 _ _ _ _ _ _ _ _ _ _ _ (by simp) h))
    · rw [pflag_f q]; exact ev_neg q (spec_l3_j1 _ _ _ _ _ _ _ _ _ _ _ (by simp) h)
theorem spec_l3Params_ev (a0 a1 : Int) (a2 a3 a4 : Bool) (b0 b1 : Int) (b2 b3 b4 : Bool) (h : sokv b0 b1 = true) :
    Ev (fun k => spec_l3Params.f k a0 a1 a2 a3 a4 b0 b1 b2 b3 b4) (if isSame a0 a1 a2 a3 a4 b0 b1 b2 b3 b4 = true then [] else if isZero b0 b1 b2 b3 b4 = true then [0] else pdiff a0 a1 a2 a3 a4 b0 b1 b2 b3 b4) := by
  unfold spec_l3Params.f
  refine ev_bind_some ?_
  have z := isZero_iff b0 b1 b2 b3 b4
  have s := isSame_iff a0 a1 a2 a3 a4 b0 b1 b2 b3 b4
  by_cases hz : isZero b0 b1 b2 b3 b4 = true
  · refine ev_pos hz ?_
    rw [isZero_not]
    refine ev_eq (spec_l3_j0 _ a0 a1 a2 a3 a4 b0 b1 b2 b3 b4 h) ?_
    rw [if_pos hz]
    obtain ⟨z0, z1, z2, z3, z4⟩ := z.mp hz
    by_cases hs : isSame a0 a1 a2 a3 a4 b0 b1 b2 b3 b4 = true
    · obtain ⟨s0, s1, s2, s3, s4⟩ := s.mp hs
      have : isZero a0 a1 a2 a3 a4 = true := by rw [s0, s1, s2, s3, s4]; exact hz
      rw [if_pos hs, this, if_neg (by simp), s0, s1, s2, s3, s4]; exact pdiff_same
    · have : isZero a0 a1 a2 a3 a4 = false := by
        rw [Bool.eq_false_iff]
        intro x
        obtain ⟨x0, x1, x2, x3, x4⟩ := (isZero_iff _ _ _ _ _).mp x
        exact hs (s.mpr ⟨by rw [x0, z0], by rw [x1, z1], by rw [x2, z2], by rw [x3, z3], by rw [x4, z4]⟩)
      rw [if_neg hs, this]; rfl
  · refine ev_neg hz ?_
    refine ev_eq (spec_l3_j0 false a0 a1 a2 a3 a4 b0 b1 b2 b3 b4 h) ?_
    rw [if_neg hz, if_neg (by simp)]
    by_cases hs : isSame a0 a1 a2 a3 a4 b0 b1 b2 b3 b4 = true
    · obtain ⟨s0, s1, s2, s3, s4⟩ := s.mp hs
      rw [if_pos hs, s0, s1, s2, s3, s4]; exact pdiff_same
    · rw [if_neg hs]
theorem spec_Params_ev (a0 a1 : Int) (a2 a3 a4 : Bool) (b0 b1 : Int) (b2 b3 b4 : Bool) : Ev (fun k => spec_Params.f k a0 a1 a2 a3 a4 b0 b1 b2 b3 b4) (paramsv a0 a1 a2 a3 a4 b0 b1 b2 b3 b4) := by
  unfold spec_Params.f paramsv
  refine ev_bind_of (spec_StyleOk_eq _ _ _ _ _) ?_
  cases ha : sokv a0 a1 with
  | false => exact ev_neg (by simp) (ev_eq (Ev.now _) (by simp))
  | true =>
    refine ev_pos rfl (ev_bind_of (spec_StyleOk_eq _ _ _ _ _) ?_)
    cases hb : sokv b0 b1 with
    | false => exact ev_neg (by simp) (ev_eq (Ev.now _) (by simp))
    | true => exact ev_pos rfl (Ev.bind (spec_l3Params_ev a0 a1 a2 a3 a4 b0 b1 b2 b3 b4 hb) (ev_eq (Ev.now _) (by simp)))
theorem impl_Params_ev (a0 a1 : Int) (a2 a3 a4 : Bool) (b0 b1 : Int) (b2 b3 b4 : Bool) : Ev (fun k => impl_Params.f k a0 a1 a2 a3 a4 b0 b1 b2 b3 b4) (paramsv a0 a1 a2 a3 a4 b0 b1 b2 b3 b4) := by
  have jt : Ev (fun k => impl_Params.j0 k [] true a0 a1 a2 a3 a4 b0 b1 b2 b3 b4) [] := by
    refine ev_succ ?_
    simp only [impl_Params.j0]
    exact ev_pos (by trivial) (Ev.now _)
  unfold impl_Params.f paramsv
  refine ev_bind_some (ev_bind_of (impl_StyleOk_eq _ _ _ _ _) ?_)
  cases ha : sokv a0 a1 with
  | false => exact ev_neg (by simp) (ev_eq jt (by simp))
  | true =>
    refine ev_pos rfl (ev_bind_of (impl_StyleOk_eq _ _ _ _ _) ?_)
    cases hb : sokv b0 b1 with
    | false => exact ev_neg (by simp) (ev_eq jt (by simp))
    | true =>
      refine ev_pos rfl ?_
      show Ev (fun k => impl_Params.j0 k [] (isSame a0 a1 a2 a3 a4 b0 b1 b2 b3 b4) a0 a1 a2 a3 a4 b0 b1 b2 b3 b4) _
      cases hs : isSame a0 a1 a2 a3 a4 b0 b1 b2 b3 b4 with
      | true => exact ev_eq jt (by simp)
      | false =>
        refine ev_eq (r := if isZero b0 b1 b2 b3 b4 = true then [0] else pdiff a0 a1 a2 a3 a4 b0 b1 b2 b3 b4) (ev_succ ?_) (by simp)
        simp only [impl_Params.j0, impl_paramOf_eq, Option.bind_some]
        refine ev_neg (by simp) ?_
        by_cases hz : isZero b0 b1 b2 b3 b4 = true
        · exact ev_pos hz (ev_pos (by simp) (ev_eq (Ev.now _) (if_pos hz).symm))
        · refine ev_neg hz (ev_eq (r := pdiff a0 a1 a2 a3 a4 b0 b1 b2 b3 b4) ?_ (if_neg hz).symm)
          unfold pdiff
          by_cases q : (a2 != b2) = true
          · rw [pflag_t q]; exact ev_pos q (ev_pos (by simp) (impl_p_j1 _ _ _ _ _ _ _ _ _ _ _ (by simp) hb))
          · rw [pflag_f q]; exact ev_neg q (impl_p_j1 _ _ _ _ _ _ _ _ _ _ _ (by simp) hb)

theorem laws_eqInt64S_ev (l : List Int) (hl : l.length < 9223372036854775807) : Ev (fun k => laws_eqInt64S.f k l l) true := by
  have go : ∀ (d i : Nat), i + d = l.length → Ev (fun k => laws_eqInt64S.l0 k l l (i : Int)) true := by
    intro d
    induction d with
    | zero =>
      intro i h
      refine ev_succ ?_
      simp only [laws_eqInt64S.l0]
      exact ev_neg (by omega) (Ev.now _)
    | succ d ih =>
      intro i h
      refine ev_succ ?_
      simp only [laws_eqInt64S.l0, w64 (x := (i : Int) + 1) (by omega) (by omega)]
      exact ev_pos (by omega) (ev_pos (by omega) (ev_pos (by omega) (ev_pos (by first | rfl | trivial) (ih (i + 1) (by omega)))))
  unfold laws_eqInt64S.f
  exact ev_pos rfl (go l.length 0 (by omega))

def mks : Nat → Int → List Int
  | 0, _ => []
  | n + 1, a => a :: mks n (a + 1)
theorem mks_length : ∀ (n : Nat) (a : Int), (mks n a).length = n
  | 0, _ => rfl
  | n + 1, a => by simp [mks, mks_length n]
theorem mks_get : ∀ (n : Nat) (a : Int) (i : Nat) (h : i < (mks n a).length), (mks n a)[i] = a + i
  | n + 1, a, 0, _ => by simp [mks]
  | n + 1, a, i + 1, h => by
    simp only [mks, List.getElem_cons_succ]
    rw [mks_get n (a + 1) i]; omega

theorem laws_markInt64S_ev (l : List Int) (a : Int) (ha : 0 ≤ a) (hl : a + l.length < 9223372036854775807) : Ev (fun k => laws_markInt64S.f k l a) (a + l.length, mks l.length a) := by
  have go : ∀ (d i : Nat) (m : List Int) (a : Int), 0 ≤ a → a + d < 9223372036854775807 → i + d = l.length → m.length = l.length → Ev (fun k => laws_markInt64S.l0 k m a (i : Int)) (a + d, m.take i ++ mks d a) := by
    intro d
    induction d with
    | zero =>
      intro i m a h0 h1 h hm
      refine ev_succ ?_
      simp only [laws_markInt64S.l0]
      refine ev_neg (by omega) ?_
      rw [List.take_of_length_le (by omega)]
      simp only [mks, List.append_nil, Int.natCast_zero, Int.add_zero]
      exact Ev.now _
    | succ d ih =>
      intro i m a h0 h1 h hm
      refine ev_succ ?_
      simp only [laws_markInt64S.l0, w64 (x := (i : Int) + 1) (by omega) (by omega), w64 (x := a + 1) (by omega) (by omega)]
      refine ev_pos (by omega) (ev_pos (by omega) ?_)
      have := ih (i + 1) (m.set (i : Int).toNat a) (a + 1) (by omega) (by omega) (by omega) (by simpa using hm)
      refine ev_eq this ?_
      rw [show (i : Int).toNat = i by omega, take_set_succ _ _ _ (by omega), List.append_assoc, List.singleton_append]
      simp only [mks, Prod.mk.injEq, and_true]; omega
  unfold laws_markInt64S.f
  have := go l.length 0 l a ha (by omega) (by omega) rfl
  simpa using this

theorem laws_heldInt64S_ev (n : Nat) (a : Int) (ha : 0 ≤ a) (hl : a + n < 9223372036854775807) : Ev (fun k => laws_heldInt64S.f k (mks n a) a) (a + n) := by
  have go : ∀ (d i : Nat), i + d = n → Ev (fun k => laws_heldInt64S.l0 k (mks n a) (a + i) (i : Int)) (a + n) := by
    intro d
    induction d with
    | zero =>
      intro i h
      refine ev_succ ?_
      simp only [laws_heldInt64S.l0]
      refine ev_neg (by rw [mks_length]; omega) ?_
      rw [show i = n by omega]
      exact Ev.now _
    | succ d ih =>
      intro i h
      refine ev_succ ?_
      simp only [laws_heldInt64S.l0, w64 (x := (i : Int) + 1) (by omega) (by omega), w64 (x := a + i + 1) (by omega) (by omega)]
      refine ev_pos (by rw [mks_length]; omega) (ev_pos (by omega) (ev_pos (by rw [rd_at (by rw [mks_length]; omega), mks_get]) ?_))
      have := ih (i + 1) (by omega)
      rw [show a + ((i + 1 : Nat) : Int) = a + i + 1 by omega] at this
      exact this
  unfold laws_heldInt64S.f
  have := go n 0 (by omega)
  simpa using this

theorem FnExactParams : laws_FnExactParams.Aim := by
  intro a0 a1 a2 a3 a4 b0 b1 b2 b3 b4 _ _ _ _
  refine Ev.rounds ?_
  have hs := spec_Params_ev a0 a1 a2 a3 a4 b0 b1 b2 b3 b4
  have hi := impl_Params_ev a0 a1 a2 a3 a4 b0 b1 b2 b3 b4
  have hl := paramsv_length a0 a1 a2 a3 a4 b0 b1 b2 b3 b4
  simp only [laws_FnExactParams.f, laws_toStyle.f, Option.bind_some]
  generalize paramsv a0 a1 a2 a3 a4 b0 b1 b2 b3 b4 = v at hs hi hl
  have he := laws_eqInt64S_ev v (by omega)
  have hh := laws_heldInt64S_ev v.length 1 (by omega) (by omega)
  exact Ev.bind hs (Ev.bind hi (Ev.bind he (ev_pos rfl (Ev.bind (laws_markInt64S_ev v 1 (by omega) (by omega)) (Ev.bind hh (ev_neg (by omega) (ev_pos rfl (Ev.bind hi (Ev.bind he (ev_pos rfl (Ev.bind hh (ev_neg (by omega) (ev_pos rfl (Ev.now _))))))))))))))

end Go.Proofs.Ytnkoppgbbmeknaa.Pure
