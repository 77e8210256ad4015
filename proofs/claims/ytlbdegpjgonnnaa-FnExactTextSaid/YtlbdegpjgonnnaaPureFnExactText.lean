/- The law FnExactText answers true at every list of numbers. -/
import Derived.Test.YtlbdegpjgonnnaaMFnExactTextx2
namespace Go.Proofs.Ytlbdegpjgonnnaa.Pure
open Go.RowKit Go.Proofs.Ytlbdegpjgonnnaa.PFnExactText Go.Proofs.YtlbdegpjgonnnaaW.PrintWords Go.Proofs.YtlbdegpjgonnnaaW.PrintLast
set_option linter.unusedVariables false
set_option linter.unusedSimpArgs false

theorem w64 {x : Int} (h0 : -9223372036854775808 ≤ x) (h1 : x ≤ 9223372036854775807) : wrap64 x = x := by unfold wrap64; omega
theorem wf64 {x : Int} : (Lit.int .i64 x).wf = true ↔ -9223372036854775808 ≤ x ∧ x ≤ 9223372036854775807 := by
  simp [Lit.wf, IntKind.min, IntKind.max, IntKind.signed, IntKind.bits]
theorem wf8 {x : Int} : (Lit.int .u8 x).wf = true ↔ 0 ≤ x ∧ x ≤ 255 := by
  simp [Lit.wf, IntKind.min, IntKind.max, IntKind.signed, IntKind.bits]
theorem ev_succ {α : Type} {g : Nat → Option α} {r : α} (h : Ev (fun k => g (k + 1)) r) : Ev g r := by
  obtain ⟨K, h⟩ := h
  refine ⟨K + 1, fun k hk => ?_⟩
  obtain ⟨m, rfl⟩ : ∃ m, k = m + 1 := ⟨k - 1, by omega⟩
  exact h m (by omega)
theorem ev_fixed {α : Type} {x : Option α} {r : α} (h : x = some r) : Ev (fun _ => x) r := ⟨0, fun _ _ => h⟩
theorem ev_eq {α : Type} {g : Nat → Option α} {r s : α} (h : Ev g r) (e : r = s) : Ev g s := e ▸ h
theorem bt0 (s : ByteArray) (i : Int) : 0 ≤ bt s i := (bt_range s i).1
theorem bt255 (s : ByteArray) (i : Int) : bt s i ≤ 255 := (bt_range s i).2

theorem ev_pos {α : Type} {c : Prop} [Decidable c] {a b : Nat → Option α} {r : α} (hc : c) (h : Ev a r) : Ev (fun k => if c then a k else b k) r := by
  obtain ⟨K, h⟩ := h
  exact ⟨K, fun k hk => by show (if c then a k else b k) = some r; rw [if_pos hc]; exact h k hk⟩
theorem ev_neg {α : Type} {c : Prop} [Decidable c] {a b : Nat → Option α} {r : α} (hc : ¬ c) (h : Ev b r) : Ev (fun k => if c then a k else b k) r := by
  obtain ⟨K, h⟩ := h
  exact ⟨K, fun k hk => by show (if c then a k else b k) = some r; rw [if_neg hc]; exact h k hk⟩
theorem ev_bind_some {α β : Type} {a : α} {f : Nat → α → Option β} {r : β} (h : Ev (fun k => f k a) r) : Ev (fun k => (some a).bind (f k)) r := h
theorem ev_bind_of {α β : Type} {x : Option α} {a : α} {f : Nat → α → Option β} {r : β} (hx : x = some a) (h : Ev (fun k => f k a) r) : Ev (fun k => x.bind (f k)) r := by
  subst hx; exact h

theorem rd_nat (l : List Int) (i : Nat) : rd l (i : Int) = l.getD i 0 := by simp [rd]
theorem rd_at {l : List Int} {i : Nat} (h : i < l.length) : rd l (i : Int) = l[i] := by rw [rd_nat, List.getD_eq_getElem?_getD, List.getElem?_eq_getElem h]; rfl
theorem take_set_succ {α : Type} (l : List α) (i : Nat) (a : α) (h : i < l.length) : (l.set i a).take (i + 1) = l.take i ++ [a] := by
  rw [List.take_succ_eq_append_getElem (by simpa using h), List.take_set, List.set_eq_of_length_le (by rw [List.length_take]; omega)]
  simp

theorem laws_toInt64S_ev (l : List Int) (hl : l.length * 8 ≤ 140737488351232) : Ev (fun k => laws_toInt64S.f k l) l := by
  have go : ∀ (d i : Nat) (m : List Int), i + d = l.length → m.length = l.length → Ev (fun k => laws_toInt64S.l0 k l m (i : Int)) (m.take i ++ l.drop i) := by
    intro d
    induction d with
    | zero =>
      intro i m h hm
      refine ev_succ ?_
      simp only [laws_toInt64S.l0]
      refine ev_neg (by omega) ?_
      rw [List.take_of_length_le (by omega), List.drop_of_length_le (by omega), List.append_nil]
      exact Ev.now _
    | succ d ih =>
      intro i m h hm
      refine ev_succ ?_
      simp only [laws_toInt64S.l0, w64 (x := (i : Int) + 1) (by omega) (by omega)]
      refine ev_pos (by omega) (ev_pos (by omega) (ev_pos (by omega) ?_))
      have := ih (i + 1) (m.set (i : Int).toNat (rd l (i : Int))) (by omega) (by simpa using hm)
      refine ev_eq this ?_
      rw [show (i : Int).toNat = i by omega, take_set_succ _ _ _ (by omega), rd_at (by omega), List.append_assoc, List.singleton_append, ← List.drop_eq_getElem_cons (by omega)]
  unfold laws_toInt64S.f
  refine ev_pos (by omega) (ev_pos (by omega) ?_)
  have := go l.length 0 (List.replicate l.length 0) (by omega) (by simp)
  simpa using this

theorem laws_eqInt64S_ev (l : List Int) (hl : l.length < 9223372036854775807) : Ev (fun k => laws_eqInt64S.f k l l) true := by
  have go : ∀ (d i : Nat), i + d = l.length → Ev (fun k => laws_eqInt64S.l0 k l l (i : Int)) true := by
    intro d
    induction d with
    | zero =>
      intro i h
      refine ev_succ ?_
      simp only [laws_eqInt64S.l0]
      exact ev_neg (by omega) (Ev.now _)
    | succ d ih =>
      intro i h
      refine ev_succ ?_
      simp only [laws_eqInt64S.l0, w64 (x := (i : Int) + 1) (by omega) (by omega)]
      exact ev_pos (by omega) (ev_pos (by omega) (ev_pos (by omega) (ev_pos (by first | rfl | trivial) (ih (i + 1) (by omega)))))
  unfold laws_eqInt64S.f
  exact ev_pos rfl (go l.length 0 (by omega))

def rok (r : Int) : Bool := decide (0 ≤ r) && decide (r ≤ 1114111) && !(decide (55296 ≤ r) && decide (r ≤ 57343))
theorem rok_iff {r : Int} : rok r = true ↔ 0 ≤ r ∧ r ≤ 1114111 ∧ ¬ (55296 ≤ r ∧ r ≤ 57343) := by
  simp [rok]; omega

def enc (r : Int) : List Int :=
  if r < 128 then [r] else if r < 2048 then [192 + r / 64, 128 + r % 64]
  else if r < 65536 then [224 + r / 4096, 128 + r / 64 % 64, 128 + r % 64]
  else [240 + r / 262144, 128 + r / 4096 % 64, 128 + r / 64 % 64, 128 + r % 64]
theorem enc_length (r : Int) : (enc r).length ≤ 4 := by
  unfold enc
  repeat' split
  all_goals simp
theorem enc_pos (r : Int) : 0 < (enc r).length := by
  unfold enc
  repeat' split
  all_goals simp
theorem enc_byte {r : Int} (h : rok r = true) : ∀ x ∈ enc r, 0 ≤ x ∧ x ≤ 255 := by
  rw [rok_iff] at h
  unfold enc
  repeat' split
  all_goals (intro x hx; simp only [List.mem_cons, List.not_mem_nil, or_false] at hx; omega)

def fixr (r : Int) : Int := if rok r then r else 65533
theorem fixr_ok (r : Int) : rok (fixr r) = true := by
  unfold fixr
  split
  · assumption
  · decide
def encs (l : List Int) : List Int := l.flatMap fun r => enc (fixr r)
theorem encs_nil : encs [] = [] := rfl
theorem encs_cons (r : Int) (l : List Int) : encs (r :: l) = enc (fixr r) ++ encs l := by simp [encs]
theorem encs_append (a b : List Int) : encs (a ++ b) = encs a ++ encs b := by simp [encs]
theorem encs_length : ∀ l : List Int, (encs l).length ≤ 4 * l.length
  | [] => by simp [encs]
  | r :: l => by
    have := encs_length l
    have := enc_length (fixr r)
    rw [encs_cons, List.length_append, List.length_cons]; omega

theorem spec_l1In_eq (a b c : Int) : spec_l1In.f a b c = some (decide (b ≤ a) && decide (a ≤ c)) := by
  unfold spec_l1In.f
  by_cases h : a ≥ b
  · rw [if_pos h]; simp [h]
  · rw [if_neg h]; simp [show ¬ b ≤ a from h]

theorem spec_RuneOk_eq (r : Int) : spec_RuneOk.f r = some (rok r) := by
  simp only [spec_RuneOk.f, spec_l1In_eq, Option.bind_some, rok]
  by_cases h : (decide (0 ≤ r) && decide (r ≤ 1114111)) = true
  · rw [if_pos h, h, Bool.true_and]
  · rw [if_neg h, Bool.eq_false_iff.mpr h, Bool.false_and]

theorem spec_l1Put_eq {r : Int} (h : rok r = true) : spec_l1Put.f r = some (enc r) := by
  rw [rok_iff] at h
  have t64 : Int.tdiv r 64 = r / 64 := Int.tdiv_eq_ediv_of_nonneg h.1
  have t4096 : Int.tdiv r 4096 = r / 4096 := Int.tdiv_eq_ediv_of_nonneg h.1
  have t262144 : Int.tdiv r 262144 = r / 262144 := Int.tdiv_eq_ediv_of_nonneg h.1
  have m64 : Int.tmod r 64 = r % 64 := Int.tmod_eq_emod_of_nonneg h.1
  have w1 : wrap64 (r / 64) = r / 64 := w64 (by omega) (by omega)
  have w2 : wrap64 (r / 4096) = r / 4096 := w64 (by omega) (by omega)
  have w3 : wrap64 (r / 262144) = r / 262144 := w64 (by omega) (by omega)
  have m1 : Int.tmod (r / 64) 64 = r / 64 % 64 := Int.tmod_eq_emod_of_nonneg (by omega)
  have m2 : Int.tmod (r / 4096) 64 = r / 4096 % 64 := Int.tmod_eq_emod_of_nonneg (by omega)
  unfold spec_l1Put.f enc
  simp only [t64, t4096, t262144, m64, w1, w2, w3, m1, m2]
  repeat' split
  · rw [show r % 256 = r by omega]
  · rw [w64 (by omega) (by omega), w64 (by omega) (by omega), show (192 + r / 64) % 256 = 192 + r / 64 by omega, show (128 + r % 64) % 256 = 128 + r % 64 by omega]
  · rw [w64 (x := 224 + r / 4096) (by omega) (by omega), w64 (x := 128 + r / 64 % 64) (by omega) (by omega), w64 (x := 128 + r % 64) (by omega) (by omega), show (224 + r / 4096) % 256 = 224 + r / 4096 by omega,
      show (128 + r / 64 % 64) % 256 = 128 + r / 64 % 64 by omega, show (128 + r % 64) % 256 = 128 + r % 64 by omega]
  · rw [w64 (x := 240 + r / 262144) (by omega) (by omega), w64 (x := 128 + r / 4096 % 64) (by omega) (by omega), w64 (x := 128 + r / 64 % 64) (by omega) (by omega), w64 (x := 128 + r % 64) (by omega) (by omega), show (240 + r / 262144) % 256 = 240 + r / 262144 by omega,
      show (128 + r / 4096 % 64) % 256 = 128 + r / 4096 % 64 by omega, show (128 + r / 64 % 64) % 256 = 128 + r / 64 % 64 by omega, show (128 + r % 64) % 256 = 128 + r % 64 by omega]

theorem spec_Text_ev (l : List Int) (hl : l.length < 17592186044416) : Ev (fun k => spec_Text.f k l) (strOfNums (encs l)) := by
  have go : ∀ (d i : Nat) (acc : List Int), i + d = l.length → acc.length ≤ 4 * i → Ev (fun k => spec_Text.l0 k l acc (i : Int)) (strOfNums (acc ++ encs (l.drop i))) := by
    intro d
    induction d with
    | zero =>
      intro i acc h ha
      refine ev_succ ?_
      simp only [spec_Text.l0]
      refine ev_neg (by omega) ?_
      rw [List.drop_of_length_le (by omega), encs_nil, List.append_nil]
      exact Ev.now _
    | succ d ih =>
      intro i acc h ha
      refine ev_succ ?_
      have hr : rd l (i : Int) = l[i]'(by omega) := rd_at (by omega)
      simp only [spec_Text.l0, w64 (x := (i : Int) + 1) (by omega) (by omega), spec_RuneOk_eq, Option.bind_some]
      refine ev_pos (by omega) (ev_pos (by omega) ?_)
      have hn : Ev (fun k => spec_Text.l0 k l (acc ++ enc (fixr (rd l (i : Int)))) ((i : Int) + 1)) (strOfNums (acc ++ encs (l.drop i))) := by
        have := ih (i + 1) (acc ++ enc (fixr (rd l (i : Int)))) (by omega) (by have := enc_length (fixr (rd l (i : Int))); rw [List.length_append]; omega)
        refine ev_eq this ?_
        rw [show l.drop i = l[i]'(by omega) :: l.drop (i + 1) from List.drop_eq_getElem_cons (by omega), encs_cons, hr, List.append_assoc]
      have hle := enc_length (fixr (rd l (i : Int)))
      by_cases c : rok (rd l (i : Int)) = true
      · refine ev_pos c (ev_bind_of (spec_l1Put_eq c) ?_)
        have e : fixr (rd l (i : Int)) = rd l (i : Int) := by unfold fixr; rw [if_pos c]
        rw [e] at hn hle
        exact ev_pos (by omega) hn
      · refine ev_neg c (ev_bind_of (spec_l1Put_eq (by decide)) ?_)
        have e : fixr (rd l (i : Int)) = 65533 := by unfold fixr; rw [if_neg c]
        rw [e] at hn hle
        exact ev_pos (by omega) hn
  exact go l.length 0 [] (by omega) (by simp)

theorem impl_in_eq (a b c : Int) : impl_in.f a b c = some (decide (b ≤ a) && decide (a ≤ c)) := by
  unfold impl_in.f
  by_cases h : b ≤ a
  · rw [if_pos h]; simp [h]
  · rw [if_neg h]; simp [h]

theorem impl_RuneOk_eq (r : Int) : impl_RuneOk.f r = some (rok r) := by
  simp only [impl_RuneOk.f, impl_in_eq, Option.bind_some, rok]
  by_cases h : (decide (0 ≤ r) && decide (r ≤ 1114111)) = true
  · rw [if_pos h, h, Bool.true_and]
  · rw [if_neg h, Bool.eq_false_iff.mpr h, Bool.false_and]

theorem utf8_AppendRune_ev {r : Int} (h : rok r = true) (l : List Int) (hl : l.length < 140737488355300) : Ev (fun k => utf8_AppendRune.f k l r) (l ++ enc r) := by
  rw [rok_iff] at h
  have e0 : r % 4294967296 = r := by omega
  have a1 : Go.bits .and .u8 (r % 256) 63 = r % 64 := by rw [u8_and63 _ (by omega) (by omega)]; omega
  have a2 : Go.bits .and .u8 ((r / 64) % 256) 63 = r / 64 % 64 := by rw [u8_and63 _ (by omega) (by omega)]; omega
  have a3 : Go.bits .and .u8 ((r / 4096) % 256) 63 = r / 4096 % 64 := by rw [u8_and63 _ (by omega) (by omega)]; omega
  have o1 : Go.bits .or .u8 128 (r % 64) = 128 + r % 64 := u8_or128 _ (by omega) (by omega)
  have o2 : Go.bits .or .u8 128 (r / 64 % 64) = 128 + r / 64 % 64 := u8_or128 _ (by omega) (by omega)
  have o3 : Go.bits .or .u8 128 (r / 4096 % 64) = 128 + r / 4096 % 64 := u8_or128 _ (by omega) (by omega)
  simp only [utf8_AppendRune.f, utf8_appendRuneNonASCII.f, e0, a1, o1]
  unfold enc
  by_cases h1 : r < 128
  · simp only [if_pos (show r ≤ 127 by omega), if_pos h1, if_pos (show l.length < 140737488355328 by omega), show r % 256 = r by omega]
    exact Ev.now _
  · simp only [if_neg (show ¬ r ≤ 127 by omega), if_neg h1]
    by_cases h2 : r < 2048
    · have o : Go.bits .or .u8 192 (r / 64 % 256) = 192 + r / 64 := by rw [show r / 64 % 256 = r / 64 by omega]; exact u8_or192 _ (by omega) (by omega)
      simp only [if_pos (show r ≤ 2047 by omega), if_pos h2, Option.bind_some, o]
      exact ev_fixed (by rw [if_pos (by simp; omega)]; rfl)
    · simp only [if_neg (show ¬ r ≤ 2047 by omega), if_neg h2]
      have j1 : r < 65536 → Ev (fun k => utf8_appendRuneNonASCII.j0 k l r r true) (l ++ [224 + r / 4096, 128 + r / 64 % 64, 128 + r % 64]) := fun h3 => by
        have o : Go.bits .or .u8 224 (r / 4096 % 256) = 224 + r / 4096 := by rw [show r / 4096 % 256 = r / 4096 by omega]; exact u8_or224 _ (by omega) (by omega)
        refine ev_succ ?_
        simp only [utf8_appendRuneNonASCII.j0, if_true, Option.bind_some, o, a1, a2, o1, o2]
        exact ev_fixed (by rw [if_pos (by simp; omega)])
      have j0 : ¬ r < 65536 → Ev (fun k => utf8_appendRuneNonASCII.j0 k l r r false) (l ++ [240 + r / 262144, 128 + r / 4096 % 64, 128 + r / 64 % 64, 128 + r % 64]) := fun h3 => by
        have o : Go.bits .or .u8 240 (r / 262144 % 256) = 240 + r / 262144 := by rw [show r / 262144 % 256 = r / 262144 by omega]; exact u8_or240 _ (by omega) (by omega)
        refine ev_succ ?_
        simp only [utf8_appendRuneNonASCII.j0, Bool.false_eq_true, if_false, Option.bind_some, o, a1, a2, a3, o1, o2, o3, if_pos (show r > 65535 by omega), if_pos (show r ≤ 1114111 by omega)]
        exact ev_fixed (by rw [if_pos (by simp; omega)])
      by_cases h3 : r < 65536
      · simp only [if_pos h3]
        by_cases h4 : r < 55296
        · simp only [if_pos h4, decide_eq_true h4]
          exact (Ev.bind (j1 h3) (Ev.now _))
        · simp only [if_neg h4, if_pos (show 57343 < r by omega), decide_eq_true (show r ≤ 65535 by omega)]
          exact (Ev.bind (j1 h3) (Ev.now _))
      · simp only [if_neg h3, if_neg (show ¬ r < 55296 by omega), if_pos (show 57343 < r by omega), decide_eq_false (show ¬ r ≤ 65535 by omega)]
        exact (Ev.bind (j0 h3) (Ev.now _))

theorem w32 {x : Int} (h0 : -2147483648 ≤ x) (h1 : x ≤ 2147483647) : wrap32 x = x := by unfold wrap32; omega

theorem impl_Text_ev (l : List Int) (hl : l.length < 17592186044416) : Ev (fun k => impl_Text.f k l) (strOfNums (encs l)) := by
  have go : ∀ (d i : Nat) (acc : List Int), i + d = l.length → acc.length ≤ 4 * i → Ev (fun k => impl_Text.l0 k acc l (l.length : Int) (i : Int)) (strOfNums (acc ++ encs (l.drop i))) := by
    intro d
    induction d with
    | zero =>
      intro i acc h ha
      refine ev_succ ?_
      simp only [impl_Text.l0]
      refine ev_neg (by omega) ?_
      rw [List.drop_of_length_le (by omega), encs_nil, List.append_nil]
      exact Ev.now _
    | succ d ih =>
      intro i acc h ha
      refine ev_succ ?_
      have hr : rd l (i : Int) = l[i]'(by omega) := rd_at (by omega)
      simp only [impl_Text.l0, w64 (x := (i : Int) + 1) (by omega) (by omega), impl_RuneOk_eq, Option.bind_some]
      refine ev_pos (by omega) (ev_pos (by omega) (ev_pos (by omega) ?_))
      have hn : Ev (fun k => impl_Text.l0 k (acc ++ enc (fixr (rd l (i : Int)))) l (l.length : Int) ((i : Int) + 1)) (strOfNums (acc ++ encs (l.drop i))) := by
        have := ih (i + 1) (acc ++ enc (fixr (rd l (i : Int)))) (by omega) (by have := enc_length (fixr (rd l (i : Int))); rw [List.length_append]; omega)
        refine ev_eq this ?_
        rw [show l.drop i = l[i]'(by omega) :: l.drop (i + 1) from List.drop_eq_getElem_cons (by omega), encs_cons, hr, List.append_assoc]
      have hle := enc_length (fixr (rd l (i : Int)))
      by_cases c : rok (rd l (i : Int)) = true
      · have c' := rok_iff.mp c
        have e : fixr (rd l (i : Int)) = rd l (i : Int) := by unfold fixr; rw [if_pos c]
        rw [e] at hn hle
        rw [w32 (by omega) (by omega)]
        exact ev_pos c (Ev.bind (utf8_AppendRune_ev c acc (by omega)) hn)
      · have e : fixr (rd l (i : Int)) = 65533 := by unfold fixr; rw [if_neg c]
        rw [e] at hn hle
        exact ev_neg c (Ev.bind (utf8_AppendRune_ev (by decide) acc (by omega)) hn)
  exact go l.length 0 [] (by omega) (by simp)

theorem FnExactText : laws_FnExactText.Pure := by
  intro l hm hl hw
  refine Ev.rounds ?_
  simp only [laws_FnExactText.f]
  by_cases h1 : (l.length : Int) > 1048576
  · exact ev_pos h1 (Ev.now _)
  refine ev_neg h1 ?_
  refine Ev.bind (laws_toInt64S_ev l hl) (Ev.bind (spec_Text_ev l (by omega)) (Ev.bind (laws_toInt64S_ev l hl) (Ev.bind (impl_Text_ev l (by omega)) (ev_pos rfl ?_))))
  exact Ev.bind (laws_toInt64S_ev l hl) (Ev.bind (laws_eqInt64S_ev l (by omega)) (ev_pos rfl (Ev.now _)))

end Go.Proofs.Ytlbdegpjgonnnaa.Pure
