/- The law FnExactSent answers true at every key. -/
import Derived.Test.YtnkoppgbbmeknaaMFnExactSentx2
import Derived.Test.YtnkoppgbbmeknaaAimFnExactSent
namespace Go.Proofs.Ytnkoppgbbmeknaa.Pure
open Go.RowKit Go.Proofs.Ytnkoppgbbmeknaa.PFnExactSent Go.Proofs.YtnkoppgbbmeknaaW.PrintWords Go.Proofs.YtnkoppgbbmeknaaW.PrintLast
set_option linter.unusedVariables false
set_option linter.unusedSimpArgs false

theorem w64 {x : Int} (h0 : -9223372036854775808 ≤ x) (h1 : x ≤ 9223372036854775807) : wrap64 x = x := by unfold wrap64; omega
theorem wf64 {x : Int} : (Lit.int .i64 x).wf = true ↔ -9223372036854775808 ≤ x ∧ x ≤ 9223372036854775807 := by
  simp [Lit.wf, IntKind.min, IntKind.max, IntKind.signed, IntKind.bits]
theorem wf8 {x : Int} : (Lit.int .u8 x).wf = true ↔ 0 ≤ x ∧ x ≤ 255 := by
  simp [Lit.wf, IntKind.min, IntKind.max, IntKind.signed, IntKind.bits]
theorem ev_succ {α : Type} {g : Nat → Option α} {r : α} (h : Ev (fun k => g (k + 1)) r) : Ev g r := by
  obtain ⟨K, h⟩ := h
  refine ⟨K + 1, fun k hk => ?_⟩
  obtain ⟨m, rfl⟩ : ∃ m, k = m + 1 := ⟨k - 1, by omega⟩
  exact h m (by omega)
theorem ev_fixed {α : Type} {x : Option α} {r : α} (h : x = some r) : Ev (fun _ => x) r := ⟨0, fun _ _ => h⟩
theorem ev_eq {α : Type} {g : Nat → Option α} {r s : α} (h : Ev g r) (e : r = s) : Ev g s := e ▸ h
theorem bt0 (s : ByteArray) (i : Int) : 0 ≤ bt s i := (bt_range s i).1
theorem bt255 (s : ByteArray) (i : Int) : bt s i ≤ 255 := (bt_range s i).2
/-- Never keep an equation 'wrap64 .. = ..' in the context where omega runs: it compares them by unfolding. -/
theorem wN {x : Int} {n : Nat} (e : x = (n : Int)) (h : n < 4611686018427387904) : wrap64 x = (n : Int) := by rw [e]; exact w64 (by omega) (by omega)

def rok (r : Int) : Bool := decide (0 ≤ r) && decide (r ≤ 1114111) && !(decide (55296 ≤ r) && decide (r ≤ 57343))
theorem rok_iff {r : Int} : rok r = true ↔ 0 ≤ r ∧ r ≤ 1114111 ∧ ¬ (55296 ≤ r ∧ r ≤ 57343) := by
  simp [rok]; omega

def enc (r : Int) : List Int :=
  if r < 128 then [r] else if r < 2048 then [192 + r / 64, 128 + r % 64]
  else if r < 65536 then [224 + r / 4096, 128 + r / 64 % 64, 128 + r % 64]
  else [240 + r / 262144, 128 + r / 4096 % 64, 128 + r / 64 % 64, 128 + r % 64]
theorem enc_length (r : Int) : (enc r).length ≤ 4 := by
  unfold enc
  repeat' split
  all_goals simp
theorem enc_pos (r : Int) : 0 < (enc r).length := by
  unfold enc
  repeat' split
  all_goals simp
theorem enc_byte {r : Int} (h : rok r = true) : ∀ x ∈ enc r, 0 ≤ x ∧ x ≤ 255 := by
  rw [rok_iff] at h
  unfold enc
  repeat' split
  all_goals (intro x hx; simp only [List.mem_cons, List.not_mem_nil, or_false] at hx; omega)

theorem spec_l1In_eq (a b c : Int) : spec_l1In.f a b c = some (decide (b ≤ a) && decide (a ≤ c)) := by
  unfold spec_l1In.f
  by_cases h : a ≥ b
  · rw [if_pos h]; simp [h]
  · rw [if_neg h]; simp [show ¬ b ≤ a from h]

theorem spec_RuneOk_eq (r : Int) : spec_RuneOk.f r = some (rok r) := by
  simp only [spec_RuneOk.f, spec_l1In_eq, Option.bind_some, rok]
  by_cases h : (decide (0 ≤ r) && decide (r ≤ 1114111)) = true
  · rw [if_pos h, h, Bool.true_and]
  · rw [if_neg h, Bool.eq_false_iff.mpr h, Bool.false_and]

theorem spec_l1Put_eq {r : Int} (h : rok r = true) : spec_l1Put.f r = some (enc r) := by
  rw [rok_iff] at h
  have t64 : Int.tdiv r 64 = r / 64 := Int.tdiv_eq_ediv_of_nonneg h.1
  have t4096 : Int.tdiv r 4096 = r / 4096 := Int.tdiv_eq_ediv_of_nonneg h.1
  have t262144 : Int.tdiv r 262144 = r / 262144 := Int.tdiv_eq_ediv_of_nonneg h.1
  have m64 : Int.tmod r 64 = r % 64 := Int.tmod_eq_emod_of_nonneg h.1
  have w1 : wrap64 (r / 64) = r / 64 := w64 (by omega) (by omega)
  have w2 : wrap64 (r / 4096) = r / 4096 := w64 (by omega) (by omega)
  have w3 : wrap64 (r / 262144) = r / 262144 := w64 (by omega) (by omega)
  have m1 : Int.tmod (r / 64) 64 = r / 64 % 64 := Int.tmod_eq_emod_of_nonneg (by omega)
  have m2 : Int.tmod (r / 4096) 64 = r / 4096 % 64 := Int.tmod_eq_emod_of_nonneg (by omega)
  unfold spec_l1Put.f enc
  simp only [t64, t4096, t262144, m64, w1, w2, w3, m1, m2]
  repeat' split
  · rw [show r % 256 = r by omega]
  · rw [w64 (by omega) (by omega), w64 (by omega) (by omega), show (192 + r / 64) % 256 = 192 + r / 64 by omega, show (128 + r % 64) % 256 = 128 + r % 64 by omega]
  · rw [w64 (x := 224 + r / 4096) (by omega) (by omega), w64 (x := 128 + r / 64 % 64) (by omega) (by omega), w64 (x := 128 + r % 64) (by omega) (by omega), show (224 + r / 4096) % 256 = 224 + r / 4096 by omega,
      show (128 + r / 64 % 64) % 256 = 128 + r / 64 % 64 by omega, show (128 + r % 64) % 256 = 128 + r % 64 by omega]
  · rw [w64 (x := 240 + r / 262144) (by omega) (by omega), w64 (x := 128 + r / 4096 % 64) (by omega) (by omega), w64 (x := 128 + r / 64 % 64) (by omega) (by omega), w64 (x := 128 + r % 64) (by omega) (by omega), show (240 + r / 262144) % 256 = 240 + r / 262144 by omega,
      show (128 + r / 4096 % 64) % 256 = 128 + r / 4096 % 64 by omega, show (128 + r / 64 % 64) % 256 = 128 + r / 64 % 64 by omega, show (128 + r % 64) % 256 = 128 + r % 64 by omega]

def putv (r : Int) : ByteArray := if rok r then strOfNums (enc r) else ⟨#[]⟩
theorem spec_Put_eq (r : Int) : spec_Put.f r = some (putv r) := by
  unfold spec_Put.f putv
  rw [spec_RuneOk_eq]
  simp only [Option.bind_some]
  split
  · rename_i h; rw [spec_l1Put_eq h]; rfl
  · rfl

theorem impl_in_eq (a b c : Int) : impl_in.f a b c = some (decide (b ≤ a) && decide (a ≤ c)) := by
  unfold impl_in.f
  by_cases h : b ≤ a
  · rw [if_pos h]; simp [h]
  · rw [if_neg h]; simp [h]

theorem impl_RuneOk_eq (r : Int) : impl_RuneOk.f r = some (rok r) := by
  simp only [impl_RuneOk.f, impl_in_eq, Option.bind_some, rok]
  by_cases h : (decide (0 ≤ r) && decide (r ≤ 1114111)) = true
  · rw [if_pos h, h, Bool.true_and]
  · rw [if_neg h, Bool.eq_false_iff.mpr h, Bool.false_and]

theorem utf8_AppendRune_ev {r : Int} (h : rok r = true) (l : List Int) (hl : l.length < 140737488355300) : Ev (fun k => utf8_AppendRune.f k l r) (l ++ enc r) := by
  rw [rok_iff] at h
  have e0 : r % 4294967296 = r := by omega
  have a1 : Go.bits .and .u8 (r % 256) 63 = r % 64 := by rw [u8_and63 _ (by omega) (by omega)]; omega
  have a2 : Go.bits .and .u8 ((r / 64) % 256) 63 = r / 64 % 64 := by rw [u8_and63 _ (by omega) (by omega)]; omega
  have a3 : Go.bits .and .u8 ((r / 4096) % 256) 63 = r / 4096 % 64 := by rw [u8_and63 _ (by omega) (by omega)]; omega
  have o1 : Go.bits .or .u8 128 (r % 64) = 128 + r % 64 := u8_or128 _ (by omega) (by omega)
  have o2 : Go.bits .or .u8 128 (r / 64 % 64) = 128 + r / 64 % 64 := u8_or128 _ (by omega) (by omega)
  have o3 : Go.bits .or .u8 128 (r / 4096 % 64) = 128 + r / 4096 % 64 := u8_or128 _ (by omega) (by omega)
  simp only [utf8_AppendRune.f, utf8_appendRuneNonASCII.f, e0, a1, o1]
  unfold enc
  by_cases h1 : r < 128
  · simp only [if_pos (show r ≤ 127 by omega), if_pos h1, if_pos (show l.length < 140737488355328 by omega), show r % 256 = r by omega]
    exact Ev.now _
  · simp only [if_neg (show ¬ r ≤ 127 by omega), if_neg h1]
    by_cases h2 : r < 2048
    · have o : Go.bits .or .u8 192 (r / 64 % 256) = 192 + r / 64 := by rw [show r / 64 % 256 = r / 64 by omega]; exact u8_or192 _ (by omega) (by omega)
      simp only [if_pos (show r ≤ 2047 by omega), if_pos h2, Option.bind_some, o]
      exact ev_fixed (by rw [if_pos (by simp; omega)]; rfl)
    · simp only [if_neg (show ¬ r ≤ 2047 by omega), if_neg h2]
      have j1 : r < 65536 → Ev (fun k => utf8_appendRuneNonASCII.j0 k l r r true) (l ++ [224 + r / 4096, 128 + r / 64 % 64, 128 + r % 64]) := fun h3 => by
        have o : Go.bits .or .u8 224 (r / 4096 % 256) = 224 + r / 4096 := by rw [show r / 4096 % 256 = r / 4096 by omega]; exact u8_or224 _ (by omega) (by omega)
        refine ev_succ ?_
        simp only [utf8_appendRuneNonASCII.j0, if_true, Option.bind_some, o, a1, a2, o1, o2]
        exact ev_fixed (by rw [if_pos (by simp; omega)])
      have j0 : ¬ r < 65536 → Ev (fun k => utf8_appendRuneNonASCII.j0 k l r r false) (l ++ [240 + r / 262144, 128 + r / 4096 % 64, 128 + r / 64 % 64, 128 + r % 64]) := fun h3 => by
        have o : Go.bits .or .u8 240 (r / 262144 % 256) = 240 + r / 262144 := by rw [show r / 262144 % 256 = r / 262144 by omega]; exact u8_or240 _ (by omega) (by omega)
        refine ev_succ ?_
        simp only [utf8_appendRuneNonASCII.j0, Bool.false_eq_true, if_false, Option.bind_some, o, a1, a2, a3, o1, o2, o3, if_pos (show r > 65535 by omega), if_pos (show r ≤ 1114111 by omega)]
        exact ev_fixed (by rw [if_pos (by simp; omega)])
      by_cases h3 : r < 65536
      · simp only [if_pos h3]
        by_cases h4 : r < 55296
        · simp only [if_pos h4, decide_eq_true h4]
          exact (Ev.bind (j1 h3) (Ev.now _))
        · simp only [if_neg h4, if_pos (show 57343 < r by omega), decide_eq_true (show r ≤ 65535 by omega)]
          exact (Ev.bind (j1 h3) (Ev.now _))
      · simp only [if_neg h3, if_neg (show ¬ r < 55296 by omega), if_pos (show 57343 < r by omega), decide_eq_false (show ¬ r ≤ 65535 by omega)]
        exact (Ev.bind (j0 h3) (Ev.now _))

theorem w32 {x : Int} (h0 : -2147483648 ≤ x) (h1 : x ≤ 2147483647) : wrap32 x = x := by unfold wrap32; omega

theorem impl_Put_ev (r : Int) : Ev (fun k => impl_Put.f k r) (putv r) := by
  simp only [impl_Put.f, impl_RuneOk_eq, Option.bind_some]
  unfold putv
  by_cases h : rok r = true
  · have h' := rok_iff.mp h
    simp only [if_pos h, w32 (x := r) (by omega) (by omega)]
    exact Ev.bind (utf8_AppendRune_ev h [] (by simp)) (Ev.now _)
  · simp only [if_neg h]
    exact Ev.now _

theorem ev_pos {α : Type} {c : Prop} [Decidable c] {a b : Nat → Option α} {r : α} (hc : c) (h : Ev a r) : Ev (fun k => if c then a k else b k) r := by
  obtain ⟨K, h⟩ := h
  exact ⟨K, fun k hk => by show (if c then a k else b k) = some r; rw [if_pos hc]; exact h k hk⟩
theorem ev_neg {α : Type} {c : Prop} [Decidable c] {a b : Nat → Option α} {r : α} (hc : ¬ c) (h : Ev b r) : Ev (fun k => if c then a k else b k) r := by
  obtain ⟨K, h⟩ := h
  exact ⟨K, fun k hk => by show (if c then a k else b k) = some r; rw [if_neg hc]; exact h k hk⟩
theorem ev_bind_some {α β : Type} {a : α} {f : Nat → α → Option β} {r : β} (h : Ev (fun k => f k a) r) : Ev (fun k => (some a).bind (f k)) r := h
theorem ev_bind_of {α β : Type} {x : Option α} {a : α} {f : Nat → α → Option β} {r : β} (hx : x = some a) (h : Ev (fun k => f k a) r) : Ev (fun k => x.bind (f k)) r := by
  subst hx; exact h

theorem rd_nat (l : List Int) (i : Nat) : rd l (i : Int) = l.getD i 0 := by simp [rd]
theorem rd_at {l : List Int} {i : Nat} (h : i < l.length) : rd l (i : Int) = l[i] := by rw [rd_nat, List.getD_eq_getElem?_getD, List.getElem?_eq_getElem h]; rfl
theorem take_set_succ {α : Type} (l : List α) (i : Nat) (a : α) (h : i < l.length) : (l.set i a).take (i + 1) = l.take i ++ [a] := by
  rw [List.take_succ_eq_append_getElem (by simpa using h), List.take_set, List.set_eq_of_length_le (by rw [List.length_take]; omega)]
  simp

theorem rdOf_at {α : Type} (d : α) {l : List α} {i : Nat} (h : i < l.length) : rdOf d l (i : Int) = l[i] := by
  unfold rdOf; rw [Int.toNat_natCast, List.getD_eq_getElem?_getD, List.getElem?_eq_getElem h]; rfl
theorem maxLen_eq : maxLen = 9223372036854775807 := rfl

theorem keyOk_tells (a b : Int) (c : Bool) : ∃ v, spec_KeyOk.f a b c = some v ∧ impl_KeyOk.f a b c = some v ∧ (v = true → (a = 1 ∧ rok b = true) ∨ (a = 2 ∧ 1 ≤ b ∧ b ≤ 26) ∨ (3 ≤ a ∧ a ≤ 12)) := by
  simp only [spec_KeyOk.f, impl_KeyOk.f, spec_RuneOk_eq, impl_RuneOk_eq, spec_l1In_eq, impl_in_eq, Option.bind_some]
  by_cases h1 : a = 1
  · simp only [if_pos h1]
    by_cases h2 : rok b = true
    · simp only [if_pos h2]
      by_cases h3 : b ≥ 32
      · simp only [if_pos h3]
        by_cases h4 : b = 127
        · simp only [if_pos h4]; exact ⟨_, rfl, rfl, fun _ => .inl ⟨h1, h2⟩⟩
        · simp only [if_neg h4]
          cases c with
          | true => exact ⟨!(b == 91), rfl, rfl, fun _ => .inl ⟨h1, h2⟩⟩
          | false => exact ⟨true, rfl, rfl, fun _ => .inl ⟨h1, h2⟩⟩
      · simp only [if_neg h3]; exact ⟨_, rfl, rfl, fun _ => .inl ⟨h1, h2⟩⟩
    · simp only [if_neg h2]; exact ⟨_, rfl, rfl, fun x => nomatch x⟩
  · simp only [if_neg h1]
    by_cases h2 : a = 2
    · simp only [if_pos h2]
      by_cases h3 : (decide (1 ≤ b) && decide (b ≤ 26)) = true
      · simp only [if_pos h3]
        simp only [Bool.and_eq_true, decide_eq_true_eq] at h3
        refine Exists.elim (p := fun v => _ = some v) ?_ fun v hv => ⟨v, hv, hv, fun _ => .inr (.inl ⟨h2, h3⟩)⟩
        repeat' split
        all_goals exact ⟨_, rfl⟩
      · simp only [if_neg h3]; exact ⟨_, rfl, rfl, fun x => nomatch x⟩
    · simp only [if_neg h2]
      by_cases h3 : (decide (3 ≤ a) && decide (a ≤ 12)) = true
      · simp only [if_pos h3]
        simp only [Bool.and_eq_true, decide_eq_true_eq] at h3
        refine Exists.elim (p := fun v => _ = some v) ?_ fun v hv => ⟨v, hv, hv, fun _ => .inr (.inr h3)⟩
        repeat' split
        all_goals exact ⟨_, rfl⟩
      · simp only [if_neg h3]; exact ⟨_, rfl, rfl, fun x => nomatch x⟩
theorem putv_size (r : Int) : (putv r).size ≤ 4 := by
  unfold putv
  split
  · rw [strOfNums_size]; exact enc_length r
  · exact Nat.zero_le _
theorem putv_low {b : Int} (h0 : 1 ≤ b) (h1 : b ≤ 26) : putv b = strOfNums [b % 256] := by
  unfold putv enc
  rw [if_pos (rok_iff.mpr (by omega)), if_pos (by omega), Int.emod_eq_of_lt (by omega) (by omega)]
theorem Sent_same (a b : Int) (c : Bool) : ∃ v, Ev (fun k => spec_Sent.f k a b c) v ∧ Ev (fun k => impl_Sent.f k a b c) v := by
  unfold spec_Sent.f impl_Sent.f
  obtain ⟨v, h1, h2, h⟩ := keyOk_tells a b c
  cases v with
  | false => exact ⟨⟨#[]⟩, ev_bind_of h1 (ev_neg (by simp) (Ev.now _)), ev_bind_of h2 (ev_neg (by simp) (Ev.now _))⟩
  | true =>
    have hs := putv_size b
    rcases h rfl with ⟨e, hr⟩ | ⟨e, hr⟩ | hr
    · subst e
      cases c with
      | true =>
        refine ⟨⟨#[27]⟩ ++ putv b, ev_bind_of h1 (ev_pos rfl (Ev.bind ?_ (Ev.now _))), ev_bind_of h2 (ev_pos rfl (ev_neg (by omega) (ev_pos rfl (ev_succ ?_))))⟩
        · unfold spec_l13Sent.f
          refine ev_bind_some (ev_pos (by omega) (ev_pos (by simp) (ev_pos rfl (ev_succ ?_))))
          simp only [spec_l13Sent.j0, spec_Put_eq, Option.bind_some]
          exact ev_pos (by trivial) (ev_pos (by omega) (Ev.now _))
        · simp only [impl_Sent.j0]
          exact ev_pos (by trivial) (Ev.bind (impl_Put_ev b) (ev_pos (by omega) (Ev.now _)))
      | false =>
        refine ⟨putv b, ev_bind_of h1 (ev_pos rfl (Ev.bind ?_ (Ev.now _))), ev_bind_of h2 (ev_pos rfl (ev_neg (by omega) (ev_pos rfl (ev_succ ?_))))⟩
        · unfold spec_l13Sent.f
          refine ev_bind_some (ev_pos (by omega) (ev_pos (by simp) (ev_pos rfl (ev_succ ?_))))
          simp only [spec_l13Sent.j0, spec_Put_eq, Option.bind_some]
          exact ev_neg (by simp) (ev_pos (by trivial) (Ev.now _))
        · simp only [impl_Sent.j0]
          exact ev_neg (by simp) (ev_pos (by trivial) (Ev.bind (impl_Put_ev b) (Ev.now _)))
    · subst e
      refine ⟨putv b, ev_bind_of h1 (ev_pos rfl (Ev.bind ?_ (Ev.now _))), ev_bind_of h2 (ev_pos rfl (ev_pos rfl (ev_eq (Ev.now _) (putv_low hr.1 hr.2).symm)))⟩
      unfold spec_l13Sent.f
      refine ev_bind_some (ev_pos (by omega) (ev_pos (by simp) (ev_neg (by omega) (ev_succ ?_))))
      simp only [spec_l13Sent.j0, spec_Put_eq, Option.bind_some]
      exact ev_neg (by simp) (ev_neg (by omega) (ev_pos (by trivial) (Ev.now _)))
    · have hb : impl_sentBy.f a = some (rdOf ByteArray.empty ([(⟨#[]⟩ : ByteArray), (⟨#[]⟩ : ByteArray), (⟨#[]⟩ : ByteArray), (⟨#[13]⟩ : ByteArray), (⟨#[9]⟩ : ByteArray), (⟨#[127]⟩ : ByteArray), (⟨#[27, 91, 65]⟩ : ByteArray), (⟨#[27, 91, 66]⟩ : ByteArray), (⟨#[27, 91, 67]⟩ : ByteArray), (⟨#[27, 91, 68]⟩ : ByteArray), (⟨#[27, 91, 72]⟩ : ByteArray), (⟨#[27, 91, 70]⟩ : ByteArray), (⟨#[27, 91, 51, 126]⟩ : ByteArray)] : List ByteArray) a) := by
        unfold impl_sentBy.f
        rw [if_pos hr]
        have c2 : a = 3 ∨ a = 4 ∨ a = 5 ∨ a = 6 ∨ a = 7 ∨ a = 8 ∨ a = 9 ∨ a = 10 ∨ a = 11 ∨ a = 12 := by omega
        rcases c2 with rfl | rfl | rfl | rfl | rfl | rfl | rfl | rfl | rfl | rfl
        all_goals rfl
      refine ⟨_, ev_bind_of h1 (ev_pos rfl (Ev.bind ?_ (Ev.now (rdOf ByteArray.empty ([(⟨#[]⟩ : ByteArray), (⟨#[]⟩ : ByteArray), (⟨#[]⟩ : ByteArray), (⟨#[13]⟩ : ByteArray), (⟨#[9]⟩ : ByteArray), (⟨#[127]⟩ : ByteArray), (⟨#[27, 91, 65]⟩ : ByteArray), (⟨#[27, 91, 66]⟩ : ByteArray), (⟨#[27, 91, 67]⟩ : ByteArray), (⟨#[27, 91, 68]⟩ : ByteArray), (⟨#[27, 91, 72]⟩ : ByteArray), (⟨#[27, 91, 70]⟩ : ByteArray), (⟨#[27, 91, 51, 126]⟩ : ByteArray)] : List ByteArray) a)))), ev_bind_of h2 (ev_pos rfl (ev_neg (by omega) (ev_neg (by omega) (ev_succ ?_))))⟩
      · unfold spec_l13Sent.f
        refine ev_bind_some (ev_pos (by omega) (ev_pos (by simp; omega) (ev_neg (by omega) (ev_succ ?_))))
        simp only [spec_l13Sent.j0, spec_Put_eq, Option.bind_some]
        exact ev_neg (by simp) (ev_neg (by omega) (ev_neg (by omega) (Ev.now _)))
      · simp only [impl_Sent.j0]
        exact ev_neg (by simp) (ev_neg (by omega) (ev_bind_of hb (Ev.now _)))
theorem FnExactSent : laws_FnExactSent.Aim := by
  intro a b c _ _
  refine Ev.rounds ?_
  simp only [laws_FnExactSent.f, laws_toKey.f, Option.bind_some]
  obtain ⟨v, h1, h2⟩ := Sent_same a b c
  exact Ev.bind h1 (Ev.bind h2 (ev_fixed (if_pos rfl)))

end Go.Proofs.Ytnkoppgbbmeknaa.Pure
