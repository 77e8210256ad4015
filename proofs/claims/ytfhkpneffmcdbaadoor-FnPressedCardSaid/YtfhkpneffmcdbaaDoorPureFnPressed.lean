/- The law FnPressed answers true at every code: keys are told out of what they send, and what is told sends what was told from. -/
import Derived.Test.YtfhkpneffmcdbaaDoorQCx18
namespace Go.Proofs.YtfhkpneffmcdbaaDoor.Pure
open Go.RowKit Go.Proofs.YtfhkpneffmcdbaaDoor.QC Go.Proofs.YtfhkpneffmcdbaaDoorW.PrintWords Go.Proofs.YtfhkpneffmcdbaaDoorW.PrintLast
set_option linter.unusedVariables false
set_option linter.unusedSimpArgs false

theorem w64 {x : Int} (h0 : -9223372036854775808 ≤ x) (h1 : x ≤ 9223372036854775807) : wrap64 x = x := by unfold wrap64; omega
theorem wf64 {x : Int} : (Lit.int .i64 x).wf = true ↔ -9223372036854775808 ≤ x ∧ x ≤ 9223372036854775807 := by
  simp [Lit.wf, IntKind.min, IntKind.max, IntKind.signed, IntKind.bits]
theorem wf8 {x : Int} : (Lit.int .u8 x).wf = true ↔ 0 ≤ x ∧ x ≤ 255 := by
  simp [Lit.wf, IntKind.min, IntKind.max, IntKind.signed, IntKind.bits]
theorem ev_succ {α : Type} {g : Nat → Option α} {r : α} (h : Ev (fun k => g (k + 1)) r) : Ev g r := by
  obtain ⟨K, h⟩ := h
  refine ⟨K + 1, fun k hk => ?_⟩
  obtain ⟨m, rfl⟩ : ∃ m, k = m + 1 := ⟨k - 1, by omega⟩
  exact h m (by omega)
theorem ev_fixed {α : Type} {x : Option α} {r : α} (h : x = some r) : Ev (fun _ => x) r := ⟨0, fun _ _ => h⟩
theorem ev_eq {α : Type} {g : Nat → Option α} {r s : α} (h : Ev g r) (e : r = s) : Ev g s := e ▸ h
/-- Never keep an equation 'wrap64 .. = ..' in the context where omega runs: it compares them by unfolding. -/
theorem wN {x : Int} {n : Nat} (e : x = (n : Int)) (h : n < 4611686018427387904) : wrap64 x = (n : Int) := by rw [e]; exact w64 (by omega) (by omega)

def rok (r : Int) : Bool := decide (0 ≤ r) && decide (r ≤ 1114111) && !(decide (55296 ≤ r) && decide (r ≤ 57343))
theorem rok_iff {r : Int} : rok r = true ↔ 0 ≤ r ∧ r ≤ 1114111 ∧ ¬ (55296 ≤ r ∧ r ≤ 57343) := by
  simp [rok]; omega

def enc (r : Int) : List Int :=
  if r < 128 then [r] else if r < 2048 then [192 + r / 64, 128 + r % 64]
  else if r < 65536 then [224 + r / 4096, 128 + r / 64 % 64, 128 + r % 64]
  else [240 + r / 262144, 128 + r / 4096 % 64, 128 + r / 64 % 64, 128 + r % 64]
theorem enc_length (r : Int) : (enc r).length ≤ 4 := by
  unfold enc
  repeat' split
  all_goals simp
theorem enc_pos (r : Int) : 0 < (enc r).length := by
  unfold enc
  repeat' split
  all_goals simp
theorem enc_byte {r : Int} (h : rok r = true) : ∀ x ∈ enc r, 0 ≤ x ∧ x ≤ 255 := by
  rw [rok_iff] at h
  unfold enc
  repeat' split
  all_goals (intro x hx; simp only [List.mem_cons, List.not_mem_nil, or_false] at hx; omega)

def putv (r : Int) : ByteArray := if rok r then strOfNums (enc r) else ⟨#[]⟩

theorem impl_in_eq (a b c : Int) : impl_in.f a b c = some (decide (b ≤ a) && decide (a ≤ c)) := by
  unfold impl_in.f
  by_cases h : b ≤ a
  · rw [if_pos h]; simp [h]
  · rw [if_neg h]; simp [h]

theorem impl_RuneOk_eq (r : Int) : impl_RuneOk.f r = some (rok r) := by
  simp only [impl_RuneOk.f, impl_in_eq, Option.bind_some, rok]
  by_cases h : (decide (0 ≤ r) && decide (r ≤ 1114111)) = true
  · rw [if_pos h, h, Bool.true_and]
  · rw [if_neg h, Bool.eq_false_iff.mpr h, Bool.false_and]

theorem utf8_AppendRune_ev {r : Int} (h : rok r = true) (l : List Int) (hl : l.length < 140737488355300) : Ev (fun k => utf8_AppendRune.f k l r) (l ++ enc r) := by
  rw [rok_iff] at h
  have e0 : r % 4294967296 = r := by omega
  have a1 : Go.bits .and .u8 (r % 256) 63 = r % 64 := by rw [u8_and63 _ (by omega) (by omega)]; omega
  have a2 : Go.bits .and .u8 ((r / 64) % 256) 63 = r / 64 % 64 := by rw [u8_and63 _ (by omega) (by omega)]; omega
  have a3 : Go.bits .and .u8 ((r / 4096) % 256) 63 = r / 4096 % 64 := by rw [u8_and63 _ (by omega) (by omega)]; omega
  have o1 : Go.bits .or .u8 128 (r % 64) = 128 + r % 64 := u8_or128 _ (by omega) (by omega)
  have o2 : Go.bits .or .u8 128 (r / 64 % 64) = 128 + r / 64 % 64 := u8_or128 _ (by omega) (by omega)
  have o3 : Go.bits .or .u8 128 (r / 4096 % 64) = 128 + r / 4096 % 64 := u8_or128 _ (by omega) (by omega)
  simp only [utf8_AppendRune.f, utf8_appendRuneNonASCII.f, e0, a1, o1]
  unfold enc
  by_cases h1 : r < 128
  · simp only [if_pos (show r ≤ 127 by omega), if_pos h1, if_pos (show l.length < 140737488355328 by omega), show r % 256 = r by omega]
    exact Ev.now _
  · simp only [if_neg (show ¬ r ≤ 127 by omega), if_neg h1]
    by_cases h2 : r < 2048
    · have o : Go.bits .or .u8 192 (r / 64 % 256) = 192 + r / 64 := by rw [show r / 64 % 256 = r / 64 by omega]; exact u8_or192 _ (by omega) (by omega)
      simp only [if_pos (show r ≤ 2047 by omega), if_pos h2, Option.bind_some, o]
      exact ev_fixed (by rw [if_pos (by simp; omega)]; rfl)
    · simp only [if_neg (show ¬ r ≤ 2047 by omega), if_neg h2]
      have j1 : r < 65536 → Ev (fun k => utf8_appendRuneNonASCII.j0 k l r r true) (l ++ [224 + r / 4096, 128 + r / 64 % 64, 128 + r % 64]) := fun h3 => by
        have o : Go.bits .or .u8 224 (r / 4096 % 256) = 224 + r / 4096 := by rw [show r / 4096 % 256 = r / 4096 by omega]; exact u8_or224 _ (by omega) (by omega)
        refine ev_succ ?_
        simp only [utf8_appendRuneNonASCII.j0, if_true, Option.bind_some, o, a1, a2, o1, o2]
        exact ev_fixed (by rw [if_pos (by simp; omega)])
      have j0 : ¬ r < 65536 → Ev (fun k => utf8_appendRuneNonASCII.j0 k l r r false) (l ++ [240 + r / 262144, 128 + r / 4096 % 64, 128 + r / 64 % 64, 128 + r % 64]) := fun h3 => by
        have o : Go.bits .or .u8 240 (r / 262144 % 256) = 240 + r / 262144 := by rw [show r / 262144 % 256 = r / 262144 by omega]; exact u8_or240 _ (by omega) (by omega)
        refine ev_succ ?_
        simp only [utf8_appendRuneNonASCII.j0, Bool.false_eq_true, if_false, Option.bind_some, o, a1, a2, a3, o1, o2, o3, if_pos (show r > 65535 by omega), if_pos (show r ≤ 1114111 by omega)]
        exact ev_fixed (by rw [if_pos (by simp; omega)])
      by_cases h3 : r < 65536
      · simp only [if_pos h3]
        by_cases h4 : r < 55296
        · simp only [if_pos h4, decide_eq_true h4]
          exact (Ev.bind (j1 h3) (Ev.now _))
        · simp only [if_neg h4, if_pos (show 57343 < r by omega), decide_eq_true (show r ≤ 65535 by omega)]
          exact (Ev.bind (j1 h3) (Ev.now _))
      · simp only [if_neg h3, if_neg (show ¬ r < 55296 by omega), if_pos (show 57343 < r by omega), decide_eq_false (show ¬ r ≤ 65535 by omega)]
        exact (Ev.bind (j0 h3) (Ev.now _))

theorem w32 {x : Int} (h0 : -2147483648 ≤ x) (h1 : x ≤ 2147483647) : wrap32 x = x := by unfold wrap32; omega

theorem impl_Put_ev (r : Int) : Ev (fun k => impl_Put.f k r) (putv r) := by
  simp only [impl_Put.f, impl_RuneOk_eq, Option.bind_some]
  unfold putv
  by_cases h : rok r = true
  · have h' := rok_iff.mp h
    simp only [if_pos h, w32 (x := r) (by omega) (by omega)]
    exact Ev.bind (utf8_AppendRune_ev h [] (by simp)) (Ev.now _)
  · simp only [if_neg h]
    exact Ev.now _

theorem ev_pos {α : Type} {c : Prop} [Decidable c] {a b : Nat → Option α} {r : α} (hc : c) (h : Ev a r) : Ev (fun k => if c then a k else b k) r := by
  obtain ⟨K, h⟩ := h
  exact ⟨K, fun k hk => by show (if c then a k else b k) = some r; rw [if_pos hc]; exact h k hk⟩
theorem ev_neg {α : Type} {c : Prop} [Decidable c] {a b : Nat → Option α} {r : α} (hc : ¬ c) (h : Ev b r) : Ev (fun k => if c then a k else b k) r := by
  obtain ⟨K, h⟩ := h
  exact ⟨K, fun k hk => by show (if c then a k else b k) = some r; rw [if_neg hc]; exact h k hk⟩
theorem ev_bind_some {α β : Type} {a : α} {f : Nat → α → Option β} {r : β} (h : Ev (fun k => f k a) r) : Ev (fun k => (some a).bind (f k)) r := h
theorem ev_bind_of {α β : Type} {x : Option α} {a : α} {f : Nat → α → Option β} {r : β} (hx : x = some a) (h : Ev (fun k => f k a) r) : Ev (fun k => x.bind (f k)) r := by
  subst hx; exact h

theorem rd_nat (l : List Int) (i : Nat) : rd l (i : Int) = l.getD i 0 := by simp [rd]
theorem rd_at {l : List Int} {i : Nat} (h : i < l.length) : rd l (i : Int) = l[i] := by rw [rd_nat, List.getD_eq_getElem?_getD, List.getElem?_eq_getElem h]; rfl
theorem take_set_succ {α : Type} (l : List α) (i : Nat) (a : α) (h : i < l.length) : (l.set i a).take (i + 1) = l.take i ++ [a] := by
  rw [List.take_succ_eq_append_getElem (by simpa using h), List.take_set, List.set_eq_of_length_le (by rw [List.length_take]; omega)]
  simp

theorem rdOf_at {α : Type} (d : α) {l : List α} {i : Nat} (h : i < l.length) : rdOf d l (i : Int) = l[i] := by
  unfold rdOf; rw [Int.toNat_natCast, List.getD_eq_getElem?_getD, List.getElem?_eq_getElem h]; rfl
theorem maxLen_eq : maxLen = 9223372036854775807 := rfl

theorem spec_l1In_eq (a b c : Int) : spec_l1In.f a b c = some (decide (b ≤ a) && decide (a ≤ c)) := by
  unfold spec_l1In.f
  by_cases h : a ≥ b
  · rw [if_pos h]; simp [h]
  · rw [if_neg h]; simp [show ¬ b ≤ a from h]

theorem spec_RuneOk_eq (r : Int) : spec_RuneOk.f r = some (rok r) := by
  simp only [spec_RuneOk.f, spec_l1In_eq, Option.bind_some, rok]
  by_cases h : (decide (0 ≤ r) && decide (r ≤ 1114111)) = true
  · rw [if_pos h, h, Bool.true_and]
  · rw [if_neg h, Bool.eq_false_iff.mpr h, Bool.false_and]

theorem spec_l1Put_eq {r : Int} (h : rok r = true) : spec_l1Put.f r = some (enc r) := by
  rw [rok_iff] at h
  have t64 : Int.tdiv r 64 = r / 64 := Int.tdiv_eq_ediv_of_nonneg h.1
  have t4096 : Int.tdiv r 4096 = r / 4096 := Int.tdiv_eq_ediv_of_nonneg h.1
  have t262144 : Int.tdiv r 262144 = r / 262144 := Int.tdiv_eq_ediv_of_nonneg h.1
  have m64 : Int.tmod r 64 = r % 64 := Int.tmod_eq_emod_of_nonneg h.1
  have w1 : wrap64 (r / 64) = r / 64 := w64 (by omega) (by omega)
  have w2 : wrap64 (r / 4096) = r / 4096 := w64 (by omega) (by omega)
  have w3 : wrap64 (r / 262144) = r / 262144 := w64 (by omega) (by omega)
  have m1 : Int.tmod (r / 64) 64 = r / 64 % 64 := Int.tmod_eq_emod_of_nonneg (by omega)
  have m2 : Int.tmod (r / 4096) 64 = r / 4096 % 64 := Int.tmod_eq_emod_of_nonneg (by omega)
  unfold spec_l1Put.f enc
  simp only [t64, t4096, t262144, m64, w1, w2, w3, m1, m2]
  repeat' split
  · rw [show r % 256 = r by omega]
  · rw [w64 (by omega) (by omega), w64 (by omega) (by omega), show (192 + r / 64) % 256 = 192 + r / 64 by omega, show (128 + r % 64) % 256 = 128 + r % 64 by omega]
  · rw [w64 (x := 224 + r / 4096) (by omega) (by omega), w64 (x := 128 + r / 64 % 64) (by omega) (by omega), w64 (x := 128 + r % 64) (by omega) (by omega), show (224 + r / 4096) % 256 = 224 + r / 4096 by omega,
      show (128 + r / 64 % 64) % 256 = 128 + r / 64 % 64 by omega, show (128 + r % 64) % 256 = 128 + r % 64 by omega]
  · rw [w64 (x := 240 + r / 262144) (by omega) (by omega), w64 (x := 128 + r / 4096 % 64) (by omega) (by omega), w64 (x := 128 + r / 64 % 64) (by omega) (by omega), w64 (x := 128 + r % 64) (by omega) (by omega), show (240 + r / 262144) % 256 = 240 + r / 262144 by omega,
      show (128 + r / 4096 % 64) % 256 = 128 + r / 4096 % 64 by omega, show (128 + r / 64 % 64) % 256 = 128 + r / 64 % 64 by omega, show (128 + r % 64) % 256 = 128 + r % 64 by omega]

theorem spec_Put_eq (r : Int) : spec_Put.f r = some (putv r) := by
  unfold spec_Put.f putv
  rw [spec_RuneOk_eq]
  simp only [Option.bind_some]
  split
  · rename_i h; rw [spec_l1Put_eq h]; rfl
  · rfl

theorem keyOk_tells (a b : Int) (c : Bool) : ∃ v, spec_KeyOk.f a b c = some v ∧ impl_KeyOk.f a b c = some v ∧ (v = true → (a = 1 ∧ rok b = true ∧ 32 ≤ b) ∨ (a = 2 ∧ 1 ≤ b ∧ b ≤ 26) ∨ (3 ≤ a ∧ a ≤ 12)) := by
  simp only [spec_KeyOk.f, impl_KeyOk.f, spec_RuneOk_eq, impl_RuneOk_eq, spec_l1In_eq, impl_in_eq, Option.bind_some]
  by_cases h1 : a = 1
  · simp only [if_pos h1]
    by_cases h2 : rok b = true
    · simp only [if_pos h2]
      by_cases h3 : b ≥ 32
      · simp only [if_pos h3]
        by_cases h4 : b = 127
        · simp only [if_pos h4]; exact ⟨_, rfl, rfl, fun _ => .inl ⟨h1, h2, h3⟩⟩
        · simp only [if_neg h4]
          cases c with
          | true => exact ⟨!(b == 91), rfl, rfl, fun _ => .inl ⟨h1, h2, h3⟩⟩
          | false => exact ⟨true, rfl, rfl, fun _ => .inl ⟨h1, h2, h3⟩⟩
      · simp only [if_neg h3]; exact ⟨_, rfl, rfl, fun x => nomatch x⟩
    · simp only [if_neg h2]; exact ⟨_, rfl, rfl, fun x => nomatch x⟩
  · simp only [if_neg h1]
    by_cases h2 : a = 2
    · simp only [if_pos h2]
      by_cases h3 : (decide (1 ≤ b) && decide (b ≤ 26)) = true
      · simp only [if_pos h3]
        simp only [Bool.and_eq_true, decide_eq_true_eq] at h3
        refine Exists.elim (p := fun v => _ = some v) ?_ fun v hv => ⟨v, hv, hv, fun _ => .inr (.inl ⟨h2, h3⟩)⟩
        repeat' split
        all_goals exact ⟨_, rfl⟩
      · simp only [if_neg h3]; exact ⟨_, rfl, rfl, fun x => nomatch x⟩
    · simp only [if_neg h2]
      by_cases h3 : (decide (3 ≤ a) && decide (a ≤ 12)) = true
      · simp only [if_pos h3]
        simp only [Bool.and_eq_true, decide_eq_true_eq] at h3
        refine Exists.elim (p := fun v => _ = some v) ?_ fun v hv => ⟨v, hv, hv, fun _ => .inr (.inr h3)⟩
        repeat' split
        all_goals exact ⟨_, rfl⟩
      · simp only [if_neg h3]; exact ⟨_, rfl, rfl, fun x => nomatch x⟩
theorem putv_size (r : Int) : (putv r).size ≤ 4 := by
  unfold putv
  split
  · rw [strOfNums_size]; exact enc_length r
  · exact Nat.zero_le _
theorem putv_low {b : Int} (h0 : 1 ≤ b) (h1 : b ≤ 26) : putv b = strOfNums [b % 256] := by
  unfold putv enc
  rw [if_pos (rok_iff.mpr (by omega)), if_pos (by omega), Int.emod_eq_of_lt (by omega) (by omega)]
theorem Sent_same (a b : Int) (c : Bool) : ∃ v, Ev (fun k => spec_Sent.f k a b c) v ∧ Ev (fun k => impl_Sent.f k a b c) v := by
  unfold spec_Sent.f impl_Sent.f
  obtain ⟨v, h1, h2, h⟩ := keyOk_tells a b c
  cases v with
  | false => exact ⟨⟨#[]⟩, ev_bind_of h1 (ev_neg (by simp) (Ev.now _)), ev_bind_of h2 (ev_neg (by simp) (Ev.now _))⟩
  | true =>
    have hs := putv_size b
    rcases h rfl with ⟨e, hr, _⟩ | ⟨e, hr⟩ | hr
    · subst e
      cases c with
      | true =>
        refine ⟨⟨#[27]⟩ ++ putv b, ev_bind_of h1 (ev_pos rfl (Ev.bind ?_ (Ev.now _))), ev_bind_of h2 (ev_pos rfl (ev_neg (by omega) (ev_pos rfl (ev_succ ?_))))⟩
        · unfold spec_l13Sent.f
          refine ev_bind_some (ev_pos (by omega) (ev_pos (by simp) (ev_pos rfl (ev_succ ?_))))
          simp only [spec_l13Sent.j0, spec_Put_eq, Option.bind_some]
          exact ev_pos (by trivial) (ev_pos (by omega) (Ev.now _))
        · simp only [impl_Sent.j0]
          exact ev_pos (by trivial) (Ev.bind (impl_Put_ev b) (ev_pos (by omega) (Ev.now _)))
      | false =>
        refine ⟨putv b, ev_bind_of h1 (ev_pos rfl (Ev.bind ?_ (Ev.now _))), ev_bind_of h2 (ev_pos rfl (ev_neg (by omega) (ev_pos rfl (ev_succ ?_))))⟩
        · unfold spec_l13Sent.f
          refine ev_bind_some (ev_pos (by omega) (ev_pos (by simp) (ev_pos rfl (ev_succ ?_))))
          simp only [spec_l13Sent.j0, spec_Put_eq, Option.bind_some]
          exact ev_neg (by simp) (ev_pos (by trivial) (Ev.now _))
        · simp only [impl_Sent.j0]
          exact ev_neg (by simp) (ev_pos (by trivial) (Ev.bind (impl_Put_ev b) (Ev.now _)))
    · subst e
      refine ⟨putv b, ev_bind_of h1 (ev_pos rfl (Ev.bind ?_ (Ev.now _))), ev_bind_of h2 (ev_pos rfl (ev_pos rfl (ev_eq (Ev.now _) (putv_low hr.1 hr.2).symm)))⟩
      unfold spec_l13Sent.f
      refine ev_bind_some (ev_pos (by omega) (ev_pos (by simp) (ev_neg (by omega) (ev_succ ?_))))
      simp only [spec_l13Sent.j0, spec_Put_eq, Option.bind_some]
      exact ev_neg (by simp) (ev_neg (by omega) (ev_pos (by trivial) (Ev.now _)))
    · have hb : impl_sentBy.f a = some (rdOf ByteArray.empty ([(⟨#[]⟩ : ByteArray), (⟨#[]⟩ : ByteArray), (⟨#[]⟩ : ByteArray), (⟨#[13]⟩ : ByteArray), (⟨#[9]⟩ : ByteArray), (⟨#[127]⟩ : ByteArray), (⟨#[27, 91, 65]⟩ : ByteArray), (⟨#[27, 91, 66]⟩ : ByteArray), (⟨#[27, 91, 67]⟩ : ByteArray), (⟨#[27, 91, 68]⟩ : ByteArray), (⟨#[27, 91, 72]⟩ : ByteArray), (⟨#[27, 91, 70]⟩ : ByteArray), (⟨#[27, 91, 51, 126]⟩ : ByteArray)] : List ByteArray) a) := by
        unfold impl_sentBy.f
        rw [if_pos hr]
        have c2 : a = 3 ∨ a = 4 ∨ a = 5 ∨ a = 6 ∨ a = 7 ∨ a = 8 ∨ a = 9 ∨ a = 10 ∨ a = 11 ∨ a = 12 := by omega
        rcases c2 with rfl | rfl | rfl | rfl | rfl | rfl | rfl | rfl | rfl | rfl
        all_goals rfl
      refine ⟨_, ev_bind_of h1 (ev_pos rfl (Ev.bind ?_ (Ev.now (rdOf ByteArray.empty ([(⟨#[]⟩ : ByteArray), (⟨#[]⟩ : ByteArray), (⟨#[]⟩ : ByteArray), (⟨#[13]⟩ : ByteArray), (⟨#[9]⟩ : ByteArray), (⟨#[127]⟩ : ByteArray), (⟨#[27, 91, 65]⟩ : ByteArray), (⟨#[27, 91, 66]⟩ : ByteArray), (⟨#[27, 91, 67]⟩ : ByteArray), (⟨#[27, 91, 68]⟩ : ByteArray), (⟨#[27, 91, 72]⟩ : ByteArray), (⟨#[27, 91, 70]⟩ : ByteArray), (⟨#[27, 91, 51, 126]⟩ : ByteArray)] : List ByteArray) a)))), ev_bind_of h2 (ev_pos rfl (ev_neg (by omega) (ev_neg (by omega) (ev_succ ?_))))⟩
      · unfold spec_l13Sent.f
        refine ev_bind_some (ev_pos (by omega) (ev_pos (by simp; omega) (ev_neg (by omega) (ev_succ ?_))))
        simp only [spec_l13Sent.j0, spec_Put_eq, Option.bind_some]
        exact ev_neg (by simp) (ev_neg (by omega) (ev_neg (by omega) (Ev.now _)))
      · simp only [impl_Sent.j0]
        exact ev_neg (by simp) (ev_neg (by omega) (ev_bind_of hb (Ev.now _)))

def bn (s : ByteArray) (i : Nat) : Nat := (s.get! i).toNat
theorem bn_lt (s : ByteArray) (i : Nat) : bn s i < 256 := UInt8.toNat_lt _
theorem bn_get (s : ByteArray) (i : Nat) (h : i < s.size) : s[i] = s.get! i := (Utf8W.get!_of_lt s i h).symm
theorem bn_bt (s : ByteArray) (i : Nat) (h : i < s.size) : bt s (i : Int) = (bn s i : Int) := by
  unfold bt bn
  have e : (i : Int).toNat = i := Int.toNat_natCast i
  rw [dif_pos (by rw [e]; exact h)]
  congr 2
  have : ∀ j (hj : j < s.size), j = i → s[j] = s.get! i := fun j hj e => by subst e; exact bn_get s j hj
  exact this _ _ e
theorem str_nil (s : ByteArray) : s.toList = [] ↔ s.size = 0 := by
  rw [Lib.toList_data]
  constructor
  · intro h
    have := congrArg List.length h
    simpa using this
  · intro h
    exact List.eq_nil_of_length_eq_zero (by simpa using h)
def dcv (s : ByteArray) : Nat × Nat := Lib.decodeN s.size (bn s 0) (bn s 1) (bn s 2) (bn s 3)
def getv (s : ByteArray) : Int × Int := if s.size = 0 then (0, 0) else (((dcv s).1 : Int), ((dcv s).2 : Int))
theorem decodeN_rune (n b0 b1 b2 b3 : Nat) : (Lib.decodeN n b0 b1 b2 b3).1 ≤ 1114111 := by
  unfold Lib.decodeN
  repeat' split
  all_goals (simp only; omega)
theorem decodeN_width (n b0 b1 b2 b3 : Nat) (hn : 1 ≤ n) : 1 ≤ (Lib.decodeN n b0 b1 b2 b3).2 ∧ (Lib.decodeN n b0 b1 b2 b3).2 ≤ n ∧ (Lib.decodeN n b0 b1 b2 b3).2 ≤ 4 := by
  unfold Lib.decodeN
  repeat' split
  all_goals (simp only; omega)
theorem dcv_bounds (s : ByteArray) (h : s.size ≠ 0) : (dcv s).1 ≤ 1114111 ∧ 1 ≤ (dcv s).2 ∧ (dcv s).2 ≤ s.size ∧ (dcv s).2 ≤ 4 :=
  ⟨decodeN_rune _ _ _ _ _, decodeN_width _ _ _ _ _ (by omega)⟩
theorem decodeGo_dcv (s : ByteArray) (h : s.size ≠ 0) : Lib.decodeGo s = dcv s := by
  unfold Lib.decodeGo dcv bn
  rw [if_neg h, Lib.decode_at, Nat.sub_zero, Nat.zero_add, Nat.zero_add, Nat.zero_add]
theorem impl_Get_eq (s : ByteArray) : impl_Get.f s = some (getv s) := by
  unfold impl_Get.f getv
  by_cases h : s.size = 0
  · rw [if_pos ((str_nil s).mpr h), if_pos h]
  · rw [if_neg (fun x => h ((str_nil s).mp x)), if_neg h]
    unfold utf8_DecodeRuneInString.f
    have := (dcv_bounds s h).1
    simp only [Option.bind_some, decodeGo_dcv s h, w64 (x := ((dcv s).1 : Int)) (by omega) (by omega)]
theorem getv_bounds (s : ByteArray) (h : s.size ≠ 0) : 0 ≤ (getv s).1 ∧ (getv s).1 ≤ 1114111 ∧ 1 ≤ (getv s).2 ∧ (getv s).2 ≤ s.size ∧ (getv s).2 ≤ 4 := by
  unfold getv
  rw [if_neg h]
  have := dcv_bounds s h
  simp only
  omega
theorem ext_size (s : ByteArray) (a : Nat) : (s.extract a s.size).size = s.size - a := by
  rw [ByteArray.size_extract]; omega

/-- The first n bytes, as numbers. -/
def bl (s : ByteArray) (n : Nat) : List Int := (List.range n).map fun i => (bn s i : Int)
theorem extract_toList (s : ByteArray) (n : Nat) (h : n ≤ s.size) : (s.extract 0 n).toList = (bl s n).map fun x => UInt8.ofNat x.toNat := by
  rw [Lib.toList_data, ByteArray.data_extract, Array.toList_extract]
  refine List.ext_getElem ?_ fun i h1 h2 => ?_
  · have : s.data.toList.length = s.size := by rw [Array.length_toList]; rfl
    simp [bl]; omega
  · have hi : i < s.size := by simp [bl] at h2; omega
    simp only [bl, List.map_map, List.getElem_map, List.getElem_range, Function.comp, Int.toNat_natCast, List.getElem_take, List.getElem_drop, Array.getElem_toList, Nat.zero_add]
    have : s[i] = s.get! i := bn_get s i hi
    unfold bn
    rw [← this, UInt8.ofNat_toNat]
    rfl
theorem ofNat_inj {x y : Int} (hx : 0 ≤ x ∧ x ≤ 255) (hy : 0 ≤ y ∧ y ≤ 255) (h : UInt8.ofNat x.toNat = UInt8.ofNat y.toNat) : x = y := by
  have := congrArg UInt8.toNat h
  simp only [UInt8.toNat_ofNat'] at this
  omega
theorem bytes_inj : ∀ (l m : List Int), (∀ x ∈ l, 0 ≤ x ∧ x ≤ 255) → (∀ x ∈ m, 0 ≤ x ∧ x ≤ 255) → (l.map fun x => UInt8.ofNat x.toNat) = (m.map fun x => UInt8.ofNat x.toNat) → l = m
  | [], [], _, _, _ => rfl
  | [], y :: m, _, _, h => by simp at h
  | x :: l, [], _, _, h => by simp at h
  | x :: l, y :: m, hl, hm, h => by
    simp only [List.map_cons, List.cons.injEq] at h
    rw [ofNat_inj (hl x (by simp)) (hm y (by simp)) h.1, bytes_inj l m (fun z hz => hl z (by simp [hz])) (fun z hz => hm z (by simp [hz])) h.2]
theorem bl_range (s : ByteArray) (n : Nat) : ∀ x ∈ bl s n, 0 ≤ x ∧ x ≤ 255 := by
  intro x hx
  simp only [bl, List.mem_map, List.mem_range] at hx
  obtain ⟨i, _, rfl⟩ := hx
  have := bn_lt s i
  omega
theorem put_is (s : ByteArray) (r : Int) (n : Nat) (h : n ≤ s.size) (h1 : 1 ≤ n) : (putv r).toList = (s.extract 0 n).toList ↔ (rok r = true ∧ enc r = bl s n) := by
  rw [extract_toList s n h]
  unfold putv
  by_cases hr : rok r = true
  · rw [if_pos hr, Lib.toList_data, strOfNums_data]
    exact ⟨fun e => ⟨hr, bytes_inj _ _ (enc_byte hr) (bl_range s n) e⟩, fun e => by rw [e.2]⟩
  · rw [if_neg hr]
    constructor
    · intro e
      have := congrArg List.length e
      simp [bl, Lib.toList_data] at this
      omega
    · intro e; exact absurd e.1 hr
def longv (b : Nat) : Nat := if b < 128 then 1 else if 192 ≤ b ∧ b < 224 then 2 else if 224 ≤ b ∧ b < 240 then 3 else if 240 ≤ b ∧ b < 248 then 4 else 0
theorem spec_l1Long_ev (b : Nat) : Ev (fun k => spec_l1Long.f k (b : Int)) (longv b : Int) := by
  have j1 : ∀ c : Bool, c = decide (224 ≤ b ∧ b < 240) → Ev (fun k => spec_l1Long.j1 k (b : Int) c) (if 224 ≤ b ∧ b < 240 then 3 else if 240 ≤ b ∧ b < 248 then 4 else 0 : Int) := by
    intro c hc
    refine ev_succ ?_
    simp only [spec_l1Long.j1]
    by_cases h : 224 ≤ b ∧ b < 240
    · rw [decide_eq_true h] at hc; exact ev_pos hc (ev_eq (Ev.now _) (if_pos h).symm)
    · rw [decide_eq_false h] at hc
      refine ev_neg (by rw [hc]; simp) (ev_eq (r := if 240 ≤ b ∧ b < 248 then 4 else 0) ?_ (if_neg h).symm)
      by_cases q : (b : Int) ≥ 240
      · refine ev_pos q ?_
        by_cases q2 : (b : Int) < 248
        · exact ev_pos q2 (ev_eq (Ev.now _) (if_pos (by omega)).symm)
        · exact ev_neg q2 (ev_eq (Ev.now _) (if_neg (by omega)).symm)
      · exact ev_neg q (ev_eq (Ev.now _) (if_neg (by omega)).symm)
  have j0 : ∀ c : Bool, c = decide (192 ≤ b ∧ b < 224) → Ev (fun k => spec_l1Long.j0 k (b : Int) c) (if 192 ≤ b ∧ b < 224 then 2 else if 224 ≤ b ∧ b < 240 then 3 else if 240 ≤ b ∧ b < 248 then 4 else 0 : Int) := by
    intro c hc
    refine ev_succ ?_
    simp only [spec_l1Long.j0]
    by_cases h : 192 ≤ b ∧ b < 224
    · rw [decide_eq_true h] at hc; exact ev_pos hc (ev_eq (Ev.now _) (if_pos h).symm)
    · rw [decide_eq_false h] at hc
      refine ev_neg (by rw [hc]; simp) (ev_eq (r := if 224 ≤ b ∧ b < 240 then 3 else if 240 ≤ b ∧ b < 248 then 4 else 0) ?_ (if_neg h).symm)
      by_cases q : (b : Int) ≥ 224
      · exact ev_pos q (j1 _ (decide_eq_decide.mpr (by omega)))
      · exact ev_neg q (j1 _ (decide_eq_false (by omega)).symm)
  unfold spec_l1Long.f
  have hv : (longv b : Int) = if b < 128 then 1 else (if 192 ≤ b ∧ b < 224 then 2 else if 224 ≤ b ∧ b < 240 then 3 else if 240 ≤ b ∧ b < 248 then 4 else 0 : Int) := by
    unfold longv; split
    · rfl
    · split
      · rfl
      · split
        · rfl
        · split <;> rfl
  by_cases h : (b : Int) < 128
  · exact ev_pos h (ev_eq (Ev.now _) (by rw [hv, if_pos (by omega)]))
  · refine ev_neg h (ev_eq (r := (if 192 ≤ b ∧ b < 224 then 2 else if 224 ≤ b ∧ b < 240 then 3 else if 240 ≤ b ∧ b < 248 then 4 else 0 : Int)) ?_ (by rw [hv]; exact (if_neg (by omega)).symm))
    by_cases q : (b : Int) ≥ 192
    · exact ev_pos q (j0 _ (decide_eq_decide.mpr (by omega)))
    · exact ev_neg q (j0 _ (decide_eq_false (by omega)).symm)
/-- What is told behind the bytes. -/
def tellv (s : ByteArray) (r n : Nat) : Int × Int := if rok (r : Int) = true ∧ enc (r : Int) = bl s n then ((r : Int), (n : Int)) else (65533, 1)
theorem get_end (s : ByteArray) (r n : Nat) (hn : n ≤ s.size) (h1 : 1 ≤ n) : Ev (fun k => spec_Get.l0 k s (n : Int) (r : Int) (n : Int)) (tellv s r n) := by
  refine ev_succ ?_
  simp only [spec_Get.l0, spec_Put_eq, Option.bind_some, Int.toNat_natCast]
  refine ev_neg (by omega) (ev_pos (by omega) (ev_pos (by omega) ?_))
  unfold tellv
  by_cases h : (putv (r : Int)).toList = (s.extract 0 n).toList
  · exact ev_pos h (ev_eq (Ev.now _) (if_pos ((put_is s _ n hn h1).mp h)).symm)
  · exact ev_neg h (ev_eq (Ev.now _) (if_neg (fun x => h ((put_is s _ n hn h1).mpr x))).symm)
theorem get_step (s : ByteArray) (r n i : Nat) (hi : i < n) (hn : n ≤ s.size) (hn4 : n ≤ 4) (hr : r < 1073741824) {v : Int × Int} (h : Ev (fun k => spec_Get.l0 k s (n : Int) ((r * 64 + bn s i % 64 : Nat) : Int) ((i + 1 : Nat) : Int)) v) :
    Ev (fun k => spec_Get.l0 k s (n : Int) (r : Int) (i : Int)) v := by
  have hb := bn_lt s i
  have e1 : ∀ _ : Unit, wrap64 (wrap64 ((r : Int) * 64) + wrap64 (Int.tmod (bt s (i : Int)) 64)) = ((r * 64 + bn s i % 64 : Nat) : Int) := fun _ => by
    rw [bn_bt s i (by omega), Int.tmod_eq_emod_of_nonneg (by omega), w64 (x := (r : Int) * 64) (by omega) (by omega), w64 (x := ((bn s i : Nat) : Int) % 64) (by omega) (by omega), w64 (by omega) (by omega)]
    omega
  refine ev_succ ?_
  simp only [spec_Get.l0, e1 (), show wrap64 ((i : Int) + 1) = ((i + 1 : Nat) : Int) by rw [w64 (by omega) (by omega)]; omega]
  exact ev_pos (by omega) (ev_pos (by omega) (ev_pos (by omega) h))
theorem get_j0 (s : ByteArray) (n m r : Nat) (hs : 0 < s.size) (hn : 1 < n) (hn4 : n ≤ 4) (hm : shl .i64 1 (IntKind.u64.wrap (wrap64 (7 - (n : Int)))) = (m : Int)) (hm0 : 0 < m) (hw : 0 ≤ IntKind.u64.wrap (wrap64 (7 - (n : Int)))) (hr : r = bn s 0 % m) {v : Int × Int}
    (h : Ev (fun k => spec_Get.l0 k s (n : Int) (r : Int) 1) v) : Ev (fun k => spec_Get.j0 k s (n : Int) false) v := by
  have hb := bn_lt s 0
  have e0 : ∀ _ : Unit, Int.tmod (wrap64 (bt s 0)) (m : Int) = (r : Int) := fun _ => by
    have := bn_bt s 0 hs
    rw [show ((0 : Nat) : Int) = 0 from rfl] at this
    rw [this, w64 (by omega) (by omega), Int.tmod_eq_emod_of_nonneg (by omega), hr]; omega
  refine ev_succ ?_
  simp only [spec_Get.j0, hm, e0 ()]
  refine ev_neg (by simp) (ev_pos (by omega) (ev_pos (by omega) (ev_pos hw (ev_neg (by omega) (ev_succ ?_)))))
  simp only [spec_Get.j1]
  exact h
theorem tell1 (s : ByteArray) (h : bn s 0 < 128) : tellv s (bn s 0) 1 = (((dcv s).1 : Int), ((dcv s).2 : Int)) := by
  have hd : dcv s = (bn s 0, 1) := by unfold dcv Lib.decodeN; rw [if_pos h]
  have hc : rok ((bn s 0 : Nat) : Int) = true ∧ enc ((bn s 0 : Nat) : Int) = bl s 1 := by
    refine ⟨rok_iff.mpr (by omega), ?_⟩
    unfold enc; rw [if_pos (by omega)]; rfl
  unfold tellv
  rw [if_pos hc, hd]
theorem tell2 (s : ByteArray) (hs : 2 ≤ s.size) (h : 192 ≤ bn s 0 ∧ bn s 0 < 224) : tellv s (bn s 0 % 32 * 64 + bn s 1 % 64) 2 = (((dcv s).1 : Int), ((dcv s).2 : Int)) := by
  have b1 := bn_lt s 1
  have hbl : bl s 2 = [(bn s 0 : Int), (bn s 1 : Int)] := rfl
  unfold tellv dcv
  rw [hbl]
  generalize bn s 0 = x0 at *
  generalize bn s 1 = x1 at *
  generalize bn s 2 = x2 at *
  generalize bn s 3 = x3 at *
  have key : (rok ((x0 % 32 * 64 + x1 % 64 : Nat) : Int) = true ∧ enc ((x0 % 32 * 64 + x1 % 64 : Nat) : Int) = [(x0 : Int), (x1 : Int)]) ↔ (x1 / 64 = 2 ∧ 128 ≤ x0 % 32 * 64 + x1 % 64) := by
    constructor
    · rintro ⟨_, e⟩
      unfold enc at e
      split at e
      · simp at e
      · split at e
        · simp only [List.cons.injEq, and_true] at e; omega
        · omega
    · intro q
      refine ⟨rok_iff.mpr (by omega), ?_⟩
      unfold enc
      rw [if_neg (by omega), if_pos (by omega)]
      simp only [List.cons.injEq, and_true]; omega
  unfold Lib.decodeN
  rw [if_neg (show ¬ x0 < 128 by omega)]
  by_cases q : x1 / 64 = 2
  · rw [if_pos (show x0 / 32 = 6 ∧ 1 < s.size ∧ x1 / 64 = 2 by omega)]
    by_cases q2 : x0 % 32 * 64 + x1 % 64 ≥ 128
    · rw [if_pos (key.mpr ⟨q, q2⟩), if_pos q2]
    · rw [if_neg (fun x => q2 (key.mp x).2), if_neg q2]; rfl
  · rw [if_neg (fun x => q (key.mp x).1), if_neg (by omega), if_neg (by omega), if_neg (by omega)]; rfl
theorem tell3 (s : ByteArray) (hs : 3 ≤ s.size) (h : 224 ≤ bn s 0 ∧ bn s 0 < 240) : tellv s ((bn s 0 % 16 * 64 + bn s 1 % 64) * 64 + bn s 2 % 64) 3 = (((dcv s).1 : Int), ((dcv s).2 : Int)) := by
  have b1 := bn_lt s 1
  have b2 := bn_lt s 2
  have hbl : bl s 3 = [(bn s 0 : Int), (bn s 1 : Int), (bn s 2 : Int)] := rfl
  unfold tellv dcv
  rw [hbl]
  generalize bn s 0 = x0 at *
  generalize bn s 1 = x1 at *
  generalize bn s 2 = x2 at *
  generalize bn s 3 = x3 at *
  have eR : (x0 % 16 * 64 + x1 % 64) * 64 + x2 % 64 = x0 % 16 * 4096 + x1 % 64 * 64 + x2 % 64 := by omega
  rw [eR]
  have key : (rok ((x0 % 16 * 4096 + x1 % 64 * 64 + x2 % 64 : Nat) : Int) = true ∧ enc ((x0 % 16 * 4096 + x1 % 64 * 64 + x2 % 64 : Nat) : Int) = [(x0 : Int), (x1 : Int), (x2 : Int)]) ↔ (x1 / 64 = 2 ∧ x2 / 64 = 2 ∧ 2048 ≤ x0 % 16 * 4096 + x1 % 64 * 64 + x2 % 64 ∧ (x0 % 16 * 4096 + x1 % 64 * 64 + x2 % 64 < 55296 ∨ 57344 ≤ x0 % 16 * 4096 + x1 % 64 * 64 + x2 % 64)) := by
    constructor
    · rintro ⟨hr, e⟩
      have hr := rok_iff.mp hr
      unfold enc at e
      split at e
      · simp at e
      · split at e
        · simp at e
        · split at e
          · simp only [List.cons.injEq, and_true] at e; omega
          · omega
    · intro q
      refine ⟨rok_iff.mpr (by omega), ?_⟩
      unfold enc
      rw [if_neg (by omega), if_neg (by omega), if_pos (by omega)]
      simp only [List.cons.injEq, and_true]; omega
  unfold Lib.decodeN
  rw [if_neg (show ¬ x0 < 128 by omega), if_neg (show ¬ (x0 / 32 = 6 ∧ 1 < s.size ∧ x1 / 64 = 2) by omega)]
  by_cases q : x1 / 64 = 2 ∧ x2 / 64 = 2
  · rw [if_pos (show x0 / 16 = 14 ∧ (1 < s.size ∧ x1 / 64 = 2) ∧ (2 < s.size ∧ x2 / 64 = 2) by omega)]
    by_cases q2 : x0 % 16 * 4096 + x1 % 64 * 64 + x2 % 64 ≥ 2048 ∧ (x0 % 16 * 4096 + x1 % 64 * 64 + x2 % 64 < 55296 ∨ (57344 ≤ x0 % 16 * 4096 + x1 % 64 * 64 + x2 % 64 ∧ x0 % 16 * 4096 + x1 % 64 * 64 + x2 % 64 ≤ 1114111))
    · rw [if_pos (key.mpr ⟨q.1, q.2, q2.1, by omega⟩), if_pos q2]
    · rw [if_neg (fun x => q2 (by have := key.mp x; omega)), if_neg q2]; rfl
  · rw [if_neg (fun x => q (by have := key.mp x; omega)), if_neg (by omega), if_neg (by omega)]; rfl
theorem tell4 (s : ByteArray) (hs : 4 ≤ s.size) (h : 240 ≤ bn s 0 ∧ bn s 0 < 248) : tellv s (((bn s 0 % 8 * 64 + bn s 1 % 64) * 64 + bn s 2 % 64) * 64 + bn s 3 % 64) 4 = (((dcv s).1 : Int), ((dcv s).2 : Int)) := by
  have b1 := bn_lt s 1
  have b2 := bn_lt s 2
  have b3 := bn_lt s 3
  have hbl : bl s 4 = [(bn s 0 : Int), (bn s 1 : Int), (bn s 2 : Int), (bn s 3 : Int)] := rfl
  unfold tellv dcv
  rw [hbl]
  generalize bn s 0 = x0 at *
  generalize bn s 1 = x1 at *
  generalize bn s 2 = x2 at *
  generalize bn s 3 = x3 at *
  have eR : ((x0 % 8 * 64 + x1 % 64) * 64 + x2 % 64) * 64 + x3 % 64 = x0 % 8 * 262144 + x1 % 64 * 4096 + x2 % 64 * 64 + x3 % 64 := by omega
  rw [eR]
  have key : (rok ((x0 % 8 * 262144 + x1 % 64 * 4096 + x2 % 64 * 64 + x3 % 64 : Nat) : Int) = true ∧ enc ((x0 % 8 * 262144 + x1 % 64 * 4096 + x2 % 64 * 64 + x3 % 64 : Nat) : Int) = [(x0 : Int), (x1 : Int), (x2 : Int), (x3 : Int)]) ↔ (x1 / 64 = 2 ∧ x2 / 64 = 2 ∧ x3 / 64 = 2 ∧ 65536 ≤ x0 % 8 * 262144 + x1 % 64 * 4096 + x2 % 64 * 64 + x3 % 64 ∧ x0 % 8 * 262144 + x1 % 64 * 4096 + x2 % 64 * 64 + x3 % 64 ≤ 1114111) := by
    constructor
    · rintro ⟨hr, e⟩
      have hr := rok_iff.mp hr
      unfold enc at e
      split at e
      · simp at e
      · split at e
        · simp at e
        · split at e
          · simp at e
          · simp only [List.cons.injEq, and_true] at e; omega
    · intro q
      refine ⟨rok_iff.mpr (by omega), ?_⟩
      unfold enc
      rw [if_neg (by omega), if_neg (by omega), if_neg (by omega)]
      simp only [List.cons.injEq, and_true]; omega
  unfold Lib.decodeN
  rw [if_neg (show ¬ x0 < 128 by omega), if_neg (show ¬ (x0 / 32 = 6 ∧ 1 < s.size ∧ x1 / 64 = 2) by omega), if_neg (show ¬ (x0 / 16 = 14 ∧ (1 < s.size ∧ x1 / 64 = 2) ∧ (2 < s.size ∧ x2 / 64 = 2)) by omega)]
  by_cases q : x1 / 64 = 2 ∧ x2 / 64 = 2 ∧ x3 / 64 = 2
  · rw [if_pos (show x0 / 8 = 30 ∧ (1 < s.size ∧ x1 / 64 = 2) ∧ (2 < s.size ∧ x2 / 64 = 2) ∧ (3 < s.size ∧ x3 / 64 = 2) by omega)]
    by_cases q2 : x0 % 8 * 262144 + x1 % 64 * 4096 + x2 % 64 * 64 + x3 % 64 ≥ 65536 ∧ (x0 % 8 * 262144 + x1 % 64 * 4096 + x2 % 64 * 64 + x3 % 64 < 55296 ∨ (57344 ≤ x0 % 8 * 262144 + x1 % 64 * 4096 + x2 % 64 * 64 + x3 % 64 ∧ x0 % 8 * 262144 + x1 % 64 * 4096 + x2 % 64 * 64 + x3 % 64 ≤ 1114111))
    · rw [if_pos (key.mpr ⟨q.1, q.2.1, q.2.2, q2.1, by omega⟩), if_pos q2]
    · rw [if_neg (fun x => q2 (by have := key.mp x; omega)), if_neg q2]; rfl
  · rw [if_neg (fun x => q (by have := key.mp x; omega)), if_neg (by omega)]; rfl
theorem spec_Get_ev (s : ByteArray) : Ev (fun k => spec_Get.f k s) (getv s) := by
  unfold spec_Get.f getv
  by_cases h : s.size = 0
  · rw [if_pos h]; exact ev_pos ((str_nil s).mpr h) (Ev.now _)
  rw [if_neg h]
  refine ev_neg (fun x => h ((str_nil s).mp x)) (ev_pos (by omega) ?_)
  have e0 : bt s 0 = (bn s 0 : Int) := bn_bt s 0 (by omega)
  rw [e0]
  refine Ev.bind (spec_l1Long_ev (bn s 0)) ?_
  have hb := bn_lt s 0
  have bad : ∀ n : Int, (((dcv s).1 : Int), ((dcv s).2 : Int)) = (65533, 1) → Ev (fun k => spec_Get.j0 k s n true) (((dcv s).1 : Int), ((dcv s).2 : Int)) := by
    intro n e
    refine ev_eq (ev_succ ?_) e.symm
    simp only [spec_Get.j0]
    exact ev_pos (by trivial) (Ev.now _)
  by_cases h1 : bn s 0 < 128
  · have hl : longv (bn s 0) = 1 := by unfold longv; rw [if_pos h1]
    rw [hl]
    refine ev_neg (by omega) ?_
    rw [decide_eq_false (by omega)]
    refine ev_succ ?_
    have e1 : ∀ _ : Unit, wrap64 (bt s 0) = (bn s 0 : Int) := fun _ => by rw [e0, w64 (by omega) (by omega)]
    simp only [spec_Get.j0, e1 ()]
    refine ev_neg (by simp) (ev_pos (by omega) (ev_neg (by omega) (ev_succ ?_)))
    simp only [spec_Get.j1]
    exact ev_eq (get_end s (bn s 0) 1 (by omega) (by omega)) (tell1 s h1)
  by_cases h2 : 192 ≤ bn s 0 ∧ bn s 0 < 224
  · have hl : longv (bn s 0) = 2 := by unfold longv; rw [if_neg h1, if_pos h2]
    rw [hl]
    refine ev_neg (by omega) ?_
    by_cases hs : s.size < 2
    · rw [decide_eq_true (by omega)]
      refine bad _ ?_
      unfold dcv Lib.decodeN
      rw [if_neg h1, if_neg (by omega), if_neg (by omega), if_neg (by omega)]; rfl
    · rw [decide_eq_false (by omega)]
      refine get_j0 s 2 32 (bn s 0 % 32) (by omega) (by omega) (by omega) (by decide +kernel) (by omega) (by decide +kernel) rfl ?_
      exact get_step s _ 2 1 (by omega) (by omega) (by omega) (by omega) (ev_eq (get_end s _ 2 (by omega) (by omega)) (tell2 s (by omega) h2))
  by_cases h3 : 224 ≤ bn s 0 ∧ bn s 0 < 240
  · have hl : longv (bn s 0) = 3 := by unfold longv; rw [if_neg h1, if_neg h2, if_pos h3]
    rw [hl]
    refine ev_neg (by omega) ?_
    by_cases hs : s.size < 3
    · rw [decide_eq_true (by omega)]
      refine bad _ ?_
      unfold dcv Lib.decodeN
      rw [if_neg h1, if_neg (by omega), if_neg (by omega), if_neg (by omega)]; rfl
    · rw [decide_eq_false (by omega)]
      refine get_j0 s 3 16 (bn s 0 % 16) (by omega) (by omega) (by omega) (by decide +kernel) (by omega) (by decide +kernel) rfl ?_
      exact get_step s _ 3 1 (by omega) (by omega) (by omega) (by omega) (get_step s _ 3 2 (by omega) (by omega) (by omega) (by omega) (ev_eq (get_end s _ 3 (by omega) (by omega)) (tell3 s (by omega) h3)))
  by_cases h4 : 240 ≤ bn s 0 ∧ bn s 0 < 248
  · have hl : longv (bn s 0) = 4 := by unfold longv; rw [if_neg h1, if_neg h2, if_neg h3, if_pos h4]
    rw [hl]
    refine ev_neg (by omega) ?_
    by_cases hs : s.size < 4
    · rw [decide_eq_true (by omega)]
      refine bad _ ?_
      unfold dcv Lib.decodeN
      rw [if_neg h1, if_neg (by omega), if_neg (by omega), if_neg (by omega)]; rfl
    · rw [decide_eq_false (by omega)]
      refine get_j0 s 4 8 (bn s 0 % 8) (by omega) (by omega) (by omega) (by decide +kernel) (by omega) (by decide +kernel) rfl ?_
      exact get_step s _ 4 1 (by omega) (by omega) (by omega) (by omega) (get_step s _ 4 2 (by omega) (by omega) (by omega) (by omega) (get_step s _ 4 3 (by omega) (by omega) (by omega) (by omega) (ev_eq (get_end s _ 4 (by omega) (by omega)) (tell4 s (by omega) h4))))
  · have hl : longv (bn s 0) = 0 := by unfold longv; rw [if_neg h1, if_neg h2, if_neg h3, if_neg h4]
    rw [hl]
    refine ev_pos (by omega) (bad _ ?_)
    unfold dcv Lib.decodeN
    rw [if_neg h1, if_neg (by omega), if_neg (by omega), if_neg (by omega)]; rfl

theorem ev_unique {α : Type} {g : Nat → Option α} {a b : α} (h : Ev g a) (m : Ev g b) : a = b := by
  obtain ⟨K, h⟩ := h
  obtain ⟨L, m⟩ := m
  exact Option.some.inj ((h (max K L) (Nat.le_max_left _ _)).symm.trans (m (max K L) (Nat.le_max_right _ _)))
/-- Text s begins with text t. -/
def pre (s t : ByteArray) : Bool := decide (t.size ≤ s.size) && ((s.extract 0 t.size).toList == t.toList)
theorem lite_eq (s t : ByteArray) : stringslite_HasPrefix.f s t = some (pre s t) := by
  unfold stringslite_HasPrefix.f pre
  simp only [Int.toNat_natCast]
  by_cases h : t.size ≤ s.size
  · rw [if_pos (by omega), if_pos (by omega), if_pos (by omega), decide_eq_true h, Bool.true_and]
  · rw [if_neg (by omega), decide_eq_false h, Bool.false_and]
theorem hasPrefix_eq (s t : ByteArray) : strings_HasPrefix.f s t = some (pre s t) := by
  unfold strings_HasPrefix.f
  rw [lite_eq]; rfl
theorem pre_iff (s t : ByteArray) : pre s t = true ↔ t.size ≤ s.size ∧ (s.extract 0 t.size).toList = t.toList := by
  unfold pre; rw [Bool.and_eq_true, decide_eq_true_eq, beq_iff_eq]
def esc : ByteArray := ⟨#[27]⟩
theorem esc_size : esc.size = 1 := rfl
theorem toList_length (s : ByteArray) : s.toList.length = s.size := by rw [Lib.toList_data, Array.length_toList]; rfl
theorem pre_esc (s : ByteArray) : pre s esc = true ↔ s.size ≠ 0 ∧ bn s 0 = 27 := by
  have hb := bn_lt s 0
  rw [pre_iff, esc_size]
  have e : esc.toList = ([27] : List Int).map fun x => UInt8.ofNat x.toNat := by rw [Lib.toList_data]; rfl
  constructor
  · rintro ⟨h1, h2⟩
    rw [extract_toList s 1 h1, e] at h2
    have := bytes_inj _ _ (bl_range s 1) (by simp) h2
    have h3 : [(bn s 0 : Int)] = [27] := this
    simp only [List.cons.injEq, and_true] at h3
    omega
  · rintro ⟨h1, h2⟩
    refine ⟨by omega, ?_⟩
    rw [extract_toList s 1 (by omega), e]
    have h3 : bl s 1 = [27] := by
      show [(bn s 0 : Int)] = [27]
      rw [h2]; rfl
    rw [h3]
theorem cutPrefix_eq (s : ByteArray) : strings_CutPrefix.f s (⟨#[27]⟩ : ByteArray) = some (if pre s esc = true then (s.extract 1 s.size, true) else (s, false)) := by
  unfold strings_CutPrefix.f stringslite_CutPrefix.f
  rw [show (⟨#[27]⟩ : ByteArray) = esc from rfl, lite_eq]
  simp only [Option.bind_some]
  by_cases h : pre s esc = true
  · have := (pre_iff s esc).mp h
    have h1 := this.1
    rw [if_pos h, if_pos h, if_pos (by omega), if_pos (by omega), Option.bind_some]
    rfl
  · rw [if_neg h, if_neg h]; rfl
def tens : List ByteArray := [(⟨#[]⟩ : ByteArray), (⟨#[]⟩ : ByteArray), (⟨#[]⟩ : ByteArray), (⟨#[13]⟩ : ByteArray), (⟨#[9]⟩ : ByteArray), (⟨#[127]⟩ : ByteArray), (⟨#[27, 91, 65]⟩ : ByteArray), (⟨#[27, 91, 66]⟩ : ByteArray), (⟨#[27, 91, 67]⟩ : ByteArray), (⟨#[27, 91, 68]⟩ : ByteArray), (⟨#[27, 91, 72]⟩ : ByteArray), (⟨#[27, 91, 70]⟩ : ByteArray), (⟨#[27, 91, 51, 126]⟩ : ByteArray)]
def sb (a : Int) : ByteArray := rdOf ByteArray.empty tens a
theorem spec_tens (a : Int) (h : 3 ≤ a ∧ a ≤ 12) : Ev (fun k => spec_l13Sent.f k a 0 false) (sb a) := by
  unfold spec_l13Sent.f
  refine ev_bind_some (ev_pos (by omega) (ev_pos (by simp; omega) (ev_neg (by omega) (ev_succ ?_))))
  simp only [spec_l13Sent.j0, spec_Put_eq, Option.bind_some]
  exact ev_neg (by simp) (ev_neg (by omega) (ev_neg (by omega) (Ev.now _)))
theorem ten_cases {a : Int} (h : 3 ≤ a ∧ a ≤ 12) : a = 3 ∨ a = 4 ∨ a = 5 ∨ a = 6 ∨ a = 7 ∨ a = 8 ∨ a = 9 ∨ a = 10 ∨ a = 11 ∨ a = 12 := by omega
theorem impl_tens (a : Int) (h : 3 ≤ a ∧ a ≤ 12) : impl_sentBy.f a = some (sb a) := by
  unfold impl_sentBy.f
  rw [if_pos h]
  rcases ten_cases h with rfl | rfl | rfl | rfl | rfl | rfl | rfl | rfl | rfl | rfl
  all_goals rfl
theorem sb_size (a : Int) (h : 3 ≤ a ∧ a ≤ 12) : 1 ≤ (sb a).size := by
  rcases ten_cases h with rfl | rfl | rfl | rfl | rfl | rfl | rfl | rfl | rfl | rfl
  all_goals decide
theorem Sent_tens (a : Int) (h : 3 ≤ a ∧ a ≤ 12) : Ev (fun k => impl_Sent.f k a 0 false) (sb a) := by
  have hk : impl_KeyOk.f a 0 false = some true := by
    rcases ten_cases h with rfl | rfl | rfl | rfl | rfl | rfl | rfl | rfl | rfl | rfl
    all_goals rfl
  unfold impl_Sent.f
  refine ev_bind_of hk (ev_pos rfl (ev_neg (by omega) (ev_neg (by omega) (ev_succ ?_))))
  simp only [impl_Sent.j0]
  exact ev_neg (by simp) (ev_neg (by omega) (ev_bind_of (impl_tens a h) (Ev.now _)))
theorem Sent1 (b : Int) (c : Bool) : ∃ v, Ev (fun k => spec_Sent.f k 1 b c) v ∧ Ev (fun k => impl_Sent.f k 1 b c) v ∧ (v.size = 0 ∨ (rok b = true ∧ 32 ≤ b ∧ v = (if c = true then esc ++ putv b else putv b))) := by
  unfold spec_Sent.f impl_Sent.f
  obtain ⟨v, h1, h2, h⟩ := keyOk_tells 1 b c
  cases v with
  | false => exact ⟨⟨#[]⟩, ev_bind_of h1 (ev_neg (by simp) (Ev.now _)), ev_bind_of h2 (ev_neg (by simp) (Ev.now _)), .inl rfl⟩
  | true =>
    have hs := putv_size b
    rcases h rfl with ⟨e, hr, h32⟩ | ⟨e, hr⟩ | hr
    · cases c with
      | true =>
        refine ⟨esc ++ putv b, ev_bind_of h1 (ev_pos rfl (Ev.bind ?_ (Ev.now _))), ev_bind_of h2 (ev_pos rfl (ev_neg (by omega) (ev_pos rfl (ev_succ ?_)))), .inr ⟨hr, h32, (if_pos rfl).symm⟩⟩
        · unfold spec_l13Sent.f
          refine ev_bind_some (ev_pos (by omega) (ev_pos (by simp) (ev_pos rfl (ev_succ ?_))))
          simp only [spec_l13Sent.j0, spec_Put_eq, Option.bind_some]
          exact ev_pos (by trivial) (ev_pos (by omega) (Ev.now _))
        · simp only [impl_Sent.j0]
          exact ev_pos (by trivial) (Ev.bind (impl_Put_ev b) (ev_pos (by omega) (Ev.now _)))
      | false =>
        refine ⟨putv b, ev_bind_of h1 (ev_pos rfl (Ev.bind ?_ (Ev.now _))), ev_bind_of h2 (ev_pos rfl (ev_neg (by omega) (ev_pos rfl (ev_succ ?_)))), .inr ⟨hr, h32, (if_neg (by simp)).symm⟩⟩
        · unfold spec_l13Sent.f
          refine ev_bind_some (ev_pos (by omega) (ev_pos (by simp) (ev_pos rfl (ev_succ ?_))))
          simp only [spec_l13Sent.j0, spec_Put_eq, Option.bind_some]
          exact ev_neg (by simp) (ev_pos (by trivial) (Ev.now _))
        · simp only [impl_Sent.j0]
          exact ev_neg (by simp) (ev_pos (by trivial) (Ev.bind (impl_Put_ev b) (Ev.now _)))
    · omega
    · omega
theorem Sent2 (b : Int) : ∃ v, spec_KeyOk.f 2 b false = some v ∧ (v = true → 1 ≤ b ∧ b ≤ 26) ∧ Ev (fun k => impl_Sent.f k 2 b false) (if v = true then strOfNums [b] else (⟨#[]⟩ : ByteArray)) := by
  unfold impl_Sent.f
  obtain ⟨v, h1, h2, h⟩ := keyOk_tells 2 b false
  refine ⟨v, h1, fun e => ?_, ?_⟩
  · rcases h e with h | h | h <;> omega
  · cases v with
    | false => exact ev_bind_of h2 (ev_neg (by simp) (Ev.now _))
    | true =>
      have hb : 1 ≤ b ∧ b ≤ 26 := by rcases h rfl with h | h | h <;> omega
      refine ev_bind_of h2 (ev_pos rfl (ev_pos rfl (ev_eq (Ev.now _) ?_)))
      rw [if_pos rfl, Int.emod_eq_of_lt (by omega) (by omega)]
theorem get_low (s : ByteArray) (h : s.size ≠ 0) (hb : bn s 0 < 128) : getv s = ((bn s 0 : Int), 1) := by
  unfold getv dcv Lib.decodeN
  rw [if_neg h, if_pos hb]; rfl
theorem get_put (s : ByteArray) (r : Int) (hr : rok r = true) (hn : (enc r).length ≤ s.size) (h : enc r = bl s (enc r).length) : getv s = (r, ((enc r).length : Int)) := by
  have hr' := rok_iff.mp hr
  obtain ⟨R, rfl⟩ : ∃ R : Nat, r = (R : Int) := ⟨r.toNat, by omega⟩
  have hs : s.size ≠ 0 := by have := enc_pos (R : Int); omega
  have fin : ∀ n, n = (enc (R : Int)).length → tellv s R n = ((R : Int), (n : Int)) := by
    intro n e
    unfold tellv
    rw [if_pos ⟨hr, by rw [e]; exact h⟩]
  unfold getv
  rw [if_neg hs]
  have b0 := bn_lt s 0
  have b1 := bn_lt s 1
  have b2 := bn_lt s 2
  have b3 := bn_lt s 3
  by_cases c1 : (R : Int) < 128
  · have e : enc (R : Int) = [(R : Int)] := by unfold enc; rw [if_pos c1]
    rw [e] at h hn fin ⊢
    have h' : [(R : Int)] = [(bn s 0 : Int)] := h
    simp only [List.cons.injEq, and_true] at h'
    have e0 : bn s 0 = R := by omega
    have t := tell1 s (by omega)
    rw [e0] at t
    rw [← t]; exact fin 1 rfl
  by_cases c2 : (R : Int) < 2048
  · have e : enc (R : Int) = [192 + (R : Int) / 64, 128 + (R : Int) % 64] := by unfold enc; rw [if_neg c1, if_pos c2]
    rw [e] at h hn fin ⊢
    have h' : [192 + (R : Int) / 64, 128 + (R : Int) % 64] = [(bn s 0 : Int), (bn s 1 : Int)] := h
    simp only [List.cons.injEq, and_true] at h'
    have e0 : bn s 0 % 32 * 64 + bn s 1 % 64 = R := by omega
    have t := tell2 s hn (by omega)
    rw [e0] at t
    rw [← t]; exact fin 2 rfl
  by_cases c3 : (R : Int) < 65536
  · have e : enc (R : Int) = [224 + (R : Int) / 4096, 128 + (R : Int) / 64 % 64, 128 + (R : Int) % 64] := by unfold enc; rw [if_neg c1, if_neg c2, if_pos c3]
    rw [e] at h hn fin ⊢
    have h' : [224 + (R : Int) / 4096, 128 + (R : Int) / 64 % 64, 128 + (R : Int) % 64] = [(bn s 0 : Int), (bn s 1 : Int), (bn s 2 : Int)] := h
    simp only [List.cons.injEq, and_true] at h'
    have e0 : (bn s 0 % 16 * 64 + bn s 1 % 64) * 64 + bn s 2 % 64 = R := by omega
    have t := tell3 s hn (by omega)
    rw [e0] at t
    rw [← t]; exact fin 3 rfl
  · have e : enc (R : Int) = [240 + (R : Int) / 262144, 128 + (R : Int) / 4096 % 64, 128 + (R : Int) / 64 % 64, 128 + (R : Int) % 64] := by unfold enc; rw [if_neg c1, if_neg c2, if_neg c3]
    rw [e] at h hn fin ⊢
    have h' : [240 + (R : Int) / 262144, 128 + (R : Int) / 4096 % 64, 128 + (R : Int) / 64 % 64, 128 + (R : Int) % 64] = [(bn s 0 : Int), (bn s 1 : Int), (bn s 2 : Int), (bn s 3 : Int)] := h
    simp only [List.cons.injEq, and_true] at h'
    have e0 : ((bn s 0 % 8 * 64 + bn s 1 % 64) * 64 + bn s 2 % 64) * 64 + bn s 3 % 64 = R := by omega
    have t := tell4 s hn (by omega)
    rw [e0] at t
    rw [← t]; exact fin 4 rfl
theorem ext_all (s : ByteArray) : s.extract 0 s.size = s := by
  apply ByteArray.ext
  rw [ByteArray.data_extract]
  exact Array.extract_size
theorem cut1 (s : ByteArray) (m : Nat) (hm : 1 + m ≤ s.size) (p : ByteArray) (h0 : bn s 0 = 27) : (s.extract 0 (1 + m)).toList = (esc ++ p).toList ↔ ((s.extract 1 s.size).extract 0 m).toList = p.toList := by
  have e1 : (esc ++ p).toList = (27 : UInt8) :: p.toList := by
    rw [Lib.toList_data, Lib.toList_data, ByteArray.data_append, Array.toList_append]; rfl
  have e2 : (s.extract 0 (1 + m)).toList = (27 : UInt8) :: ((s.extract 1 s.size).extract 0 m).toList := by
    have hr : ∀ i, i < m → bn (s.extract 1 s.size) i = bn s (i + 1) := by
      intro i hi
      have hg : ∀ (u : ByteArray) (j : Nat), u.get! j = u.data[j]! := fun u j => by cases u; rfl
      have hss : s.data.size = s.size := rfl
      unfold bn
      rw [hg, hg, ByteArray.data_extract, getElem!_pos s.data (i + 1) (by omega), getElem!_pos (s.data.extract 1 s.size) i (by rw [Array.size_extract]; omega), Array.getElem_extract]
      have : ∀ j (hj : j < s.data.size), j = i + 1 → s.data[j] = s.data[i + 1]'(by omega) := fun j hj e => by subst e; rfl
      rw [this _ _ (by omega)]
    rw [extract_toList s (1 + m) hm, extract_toList (s.extract 1 s.size) m (by rw [ext_size]; omega)]
    have hbl : bl s (1 + m) = 27 :: bl (s.extract 1 s.size) m := by
      unfold bl
      rw [Nat.add_comm 1 m, List.range_succ_eq_map, List.map_cons, List.map_map, h0]
      refine congrArg (List.cons (27 : Int)) (List.map_congr_left fun i hi => ?_)
      rw [List.mem_range] at hi
      show ((bn s (i + 1) : Nat) : Int) = _
      rw [hr i hi]
    rw [hbl]; rfl
  rw [e1, e2, List.cons.injEq]
  exact ⟨fun x => x.2, fun x => ⟨rfl, x⟩⟩
/-- Both functions tell the same key, with as many bytes as it sends, or none. -/
def Both (s : ByteArray) (gs : Nat → Option (Int × Int × Bool × Int)) (gi : Nat → Option (Int × Int × Bool × Bool)) : Prop :=
  ∃ (a b : Int) (c : Bool) (n : Nat), n ≤ s.size ∧ Ev gs (a, b, c, (n : Int)) ∧ ((n = 0 ∧ Ev gi (0, 0, false, false)) ∨ (1 ≤ n ∧ Ev gi (a, b, c, true) ∧ ∃ t : ByteArray, t.size = n ∧ Ev (fun k => impl_Sent.f k a b c) t))
theorem Both.map {s : ByteArray} {gs gs' : Nat → Option (Int × Int × Bool × Int)} {gi gi' : Nat → Option (Int × Int × Bool × Bool)} (h : Both s gs gi) (hs : ∀ v, Ev gs v → Ev gs' v) (hi : ∀ v, Ev gi v → Ev gi' v) : Both s gs' gi' := by
  obtain ⟨a, b, c, n, hn, h1, h2⟩ := h
  refine ⟨a, b, c, n, hn, hs _ h1, ?_⟩
  rcases h2 with ⟨e, h2⟩ | ⟨e, h2, t⟩
  · exact .inl ⟨e, hi _ h2⟩
  · exact .inr ⟨e, hi _ h2, t⟩
theorem l2_2 (s : ByteArray) (r : Int) (c : Bool) : Ev (fun k => impl_pressed.l2 k s r c 2) (0, 0, false, false) := by
  refine ev_succ ?_
  simp only [impl_pressed.l2]
  exact ev_neg (by omega) (Ev.now _)
theorem l2_1 (s : ByteArray) (r : Int) (c : Bool) (v2 : ByteArray) (h2 : Ev (fun k => impl_Sent.f k 2 r false) v2) :
    Ev (fun k => impl_pressed.l2 k s r c 1) (if v2.size ≠ 0 ∧ pre s v2 = true then (2, r, false, true) else (0, 0, false, false)) := by
  refine ev_succ ?_
  simp only [impl_pressed.l2, if_neg (show ¬ (1 : Int) = 0 by decide), show wrap64 (1 + 1) = 2 from w64 (by omega) (by omega)]
  refine ev_pos (by omega) (Ev.bind h2 ?_)
  by_cases e : v2.size = 0
  · exact ev_pos ((str_nil v2).mpr e) (ev_eq (l2_2 s r c) (if_neg (fun x => x.1 e)).symm)
  · refine ev_neg (fun x => e ((str_nil _).mp x)) (ev_bind_of (hasPrefix_eq s v2) ?_)
    by_cases p : pre s v2 = true
    · exact ev_pos p (ev_eq (Ev.now _) (if_pos ⟨e, p⟩).symm)
    · exact ev_neg p (ev_eq (l2_2 s r c) (if_neg (fun x => p x.2)).symm)
theorem l2_0 (s : ByteArray) (r : Int) (c : Bool) (v1 v2 : ByteArray) (h1 : Ev (fun k => impl_Sent.f k 1 r c) v1) (h2 : Ev (fun k => impl_Sent.f k 2 r false) v2) :
    Ev (fun k => impl_pressed.l2 k s r c 0) (if v1.size ≠ 0 ∧ pre s v1 = true then (1, r, c, true) else if v2.size ≠ 0 ∧ pre s v2 = true then (2, r, false, true) else (0, 0, false, false)) := by
  refine ev_succ ?_
  simp only [impl_pressed.l2, if_pos, show wrap64 (0 + 1) = 1 from w64 (by omega) (by omega)]
  refine ev_pos (by omega) (Ev.bind h1 ?_)
  by_cases e : v1.size = 0
  · exact ev_pos ((str_nil v1).mpr e) (ev_eq (l2_1 s r c v2 h2) (if_neg (fun x => x.1 e)).symm)
  · refine ev_neg (fun x => e ((str_nil _).mp x)) (ev_bind_of (hasPrefix_eq s v1) ?_)
    by_cases p : pre s v1 = true
    · exact ev_pos p (ev_eq (Ev.now _) (if_pos ⟨e, p⟩).symm)
    · exact ev_neg p (ev_eq (l2_1 s r c v2 h2) (if_neg (fun x => p x.2)).symm)
theorem getv_le (s : ByteArray) : ∃ G : Nat, (getv s).2 = (G : Int) ∧ G ≤ s.size ∧ G ≤ 4 := by
  by_cases h : s.size = 0
  · exact ⟨0, by unfold getv; rw [if_pos h]; rfl, by omega, by omega⟩
  · have := getv_bounds s h
    exact ⟨(getv s).2.toNat, by omega, by omega, by omega⟩
theorem putv_size_rok (r : Int) (h : rok r = true) : (putv r).size = (enc r).length := by
  unfold putv; rw [if_pos h, strOfNums_size]
theorem mid_same (s rest : ByteArray) (c : Bool) (n0 : Nat) (hs : s.size ≠ 0) (hl : s.size < 4611686018427387904) (hrest : rest = s.extract n0 s.size)
    (hc : (c = true ∧ n0 = 1 ∧ bn s 0 = 27) ∨ (c = false ∧ n0 = 0 ∧ bn s 0 ≠ 27))
    (hk2 : ∀ v, Ev (fun k => impl_Sent.f k 2 (getv rest).1 false) v → v.size = 0 ∨ ¬ pre s v = true) :
    Both s (fun k => spec_l13Key.j2 k s (n0 : Int) 1 0 c) (fun k => impl_pressed.l2 k s (getv rest).1 c 0) := by
  have hn0 : n0 ≤ s.size := by rcases hc with h | h <;> omega
  have hrs : rest.size = s.size - n0 := by rw [hrest, ext_size]
  obtain ⟨G, hG, hGs, hG4⟩ := getv_le rest
  obtain ⟨v1, hs1, hi1, hv1⟩ := Sent1 (getv rest).1 c
  obtain ⟨v2b, _, _, hi2⟩ := Sent2 (getv rest).1
  generalize (if v2b = true then strOfNums [(getv rest).1] else (⟨#[]⟩ : ByteArray)) = v2 at hi2
  have hk := hk2 v2 hi2
  have him := l2_0 s (getv rest).1 c v1 v2 hi1 hi2
  have hn2 : ¬ (v2.size ≠ 0 ∧ pre s v2 = true) := fun x => by rcases hk with h | h; exact x.1 h; exact h x.2
  rw [if_neg hn2] at him
  have hw : ∀ _ : Unit, wrap64 ((n0 : Int) + (getv rest).2) = ((n0 + G : Nat) : Int) := fun _ => by rw [hG, w64 (by omega) (by omega)]; omega
  -- what the given function tells
  have spec : ∀ v, Ev (fun k => if v1.toList = ([] : List UInt8) then some (0, 0, false, 0) else (if ((n0 + G : Nat) : Int) > (s.size : Int) then some (0, 0, false, 0) else (if 0 ≤ ((n0 + G : Nat) : Int) then (if ((n0 + G : Nat) : Int) ≤ (s.size : Int) then (if (s.extract 0 (n0 + G)).toList = v1.toList then some (1, (getv rest).1, c, ((n0 + G : Nat) : Int)) else some (0, 0, false, 0)) else none) else none))) v → Ev (fun k => spec_l13Key.j2 k s (n0 : Int) 1 0 c) v := by
    intro v h
    refine ev_succ ?_
    simp only [spec_l13Key.j2, Int.toNat_natCast]
    refine ev_pos (by omega) (ev_pos (by omega) ?_)
    rw [← hrest]
    refine Ev.bind (spec_Get_ev rest) (Ev.bind hs1 ?_)
    simp only [hw (), Int.toNat_natCast]
    exact h
  by_cases e : v1.size = 0
  · rw [if_neg (fun x => x.1 e)] at him
    exact ⟨0, 0, false, 0, by omega, spec _ (ev_pos ((str_nil v1).mpr e) (Ev.now _)), .inl ⟨rfl, him⟩⟩
  obtain ⟨hr, h32, hv⟩ : rok (getv rest).1 = true ∧ 32 ≤ (getv rest).1 ∧ v1 = (if c = true then esc ++ putv (getv rest).1 else putv (getv rest).1) := by
    rcases hv1 with h | h
    · exact absurd h e
    · exact h
  have hps := putv_size_rok _ hr
  have hep := enc_pos (getv rest).1
  have hvs : v1.size = n0 + (putv (getv rest).1).size := by
    rcases hc with ⟨rfl, rfl, _⟩ | ⟨rfl, rfl, _⟩
    · rw [hv, if_pos rfl, ByteArray.size_append, esc_size]
    · rw [hv, if_neg (by simp)]; omega
  have cut : ∀ m, n0 + m ≤ s.size → ((s.extract 0 (n0 + m)).toList = v1.toList ↔ (rest.extract 0 m).toList = (putv (getv rest).1).toList) := by
    intro m hm
    rcases hc with ⟨rfl, rfl, h27⟩ | ⟨rfl, rfl, _⟩
    · rw [hv, if_pos rfl, hrest]
      rw [← hrest]
      rw [cut1 s m hm _ h27, ← hrest]
    · have hv' : v1 = putv (getv rest).1 := by rw [hv, if_neg (by simp)]
      rw [hv', Nat.zero_add]
      have : rest = s := by rw [hrest, ext_all]
      rw [this]
  have hP : (rest.extract 0 G).toList = (putv (getv rest).1).toList → G = (putv (getv rest).1).size := by
    intro h
    have := congrArg List.length h
    rw [toList_length, toList_length, ByteArray.size_extract] at this
    omega
  have hpre : pre s v1 = true ↔ (rest.extract 0 G).toList = (putv (getv rest).1).toList := by
    rw [pre_iff, hvs]
    constructor
    · rintro ⟨h1, h2⟩
      have h3 := (cut _ h1).mp h2
      have h4 := (put_is rest (getv rest).1 _ (by omega) (by omega)).mp h3.symm
      rw [hps] at h4
      have h5 := get_put rest (getv rest).1 hr (by omega) h4.2
      have h6 : (getv rest).2 = ((enc (getv rest).1).length : Int) := congrArg Prod.snd h5
      have h7 : G = (putv (getv rest).1).size := by omega
      rw [h7]; exact h3
    · intro h
      have h1 := hP h
      rw [← h1]
      exact ⟨by omega, (cut G (by omega)).mpr h⟩
  by_cases p : (rest.extract 0 G).toList = (putv (getv rest).1).toList
  · have h1 := hP p
    rw [if_pos ⟨e, hpre.mpr p⟩] at him
    refine ⟨1, (getv rest).1, c, n0 + G, by omega, spec _ ?_, .inr ⟨by omega, him, v1, by omega, hi1⟩⟩
    exact ev_neg (fun x => e ((str_nil _).mp x)) (ev_neg (by omega) (ev_pos (by omega) (ev_pos (by omega) (ev_pos ((cut G (by omega)).mpr p) (Ev.now _)))))
  · rw [if_neg (fun x => p (hpre.mp x.2))] at him
    refine ⟨0, 0, false, 0, by omega, spec _ ?_, .inl ⟨rfl, him⟩⟩
    exact ev_neg (fun x => e ((str_nil _).mp x)) (ev_neg (by omega) (ev_pos (by omega) (ev_pos (by omega) (ev_neg (fun x => p ((cut G (by omega)).mp x)) (Ev.now _)))))
theorem one_pre (s : ByteArray) (b : Int) (hb : 0 ≤ b ∧ b ≤ 255) : pre s (strOfNums [b]) = true ↔ s.size ≠ 0 ∧ (bn s 0 : Int) = b := by
  have hz : (strOfNums [b]).size = 1 := by rw [strOfNums_size]; rfl
  have e : (strOfNums [b]).toList = ([b] : List Int).map fun x => UInt8.ofNat x.toNat := by rw [Lib.toList_data, strOfNums_data]
  rw [pre_iff, hz]
  constructor
  · rintro ⟨h1, h2⟩
    rw [extract_toList s 1 h1, e] at h2
    have h3 : [(bn s 0 : Int)] = [b] := bytes_inj _ _ (bl_range s 1) (by simpa using hb) h2
    simp only [List.cons.injEq, and_true] at h3
    exact ⟨by omega, h3⟩
  · rintro ⟨h1, h2⟩
    refine ⟨by omega, ?_⟩
    rw [extract_toList s 1 (by omega), e]
    have h3 : bl s 1 = [b] := by
      show [(bn s 0 : Int)] = [b]
      rw [h2]
    rw [h3]
theorem rest_same (s : ByteArray) (hs : s.size ≠ 0) (hl : s.size < 4611686018427387904) :
    Both s (fun k => if 0 < (s.size : Int) then (if (bt s 0) < 27 then ((spec_KeyOk.f 2 (wrap64 (bt s 0)) false).bind fun t466 => (if t466 = true then (some (2, wrap64 (bt s 0), false, 1)) else (spec_l13Key.j1 k s))) else (spec_l13Key.j1 k s)) else (none))
      (fun k => (strings_CutPrefix.f s (⟨#[27]⟩ : ByteArray)).bind fun c => ((impl_Get.f c.1).bind fun g => (impl_pressed.l2 k s g.1 c.2 0))) := by
  have e0 : bt s 0 = (bn s 0 : Int) := bn_bt s 0 (by omega)
  have hb := bn_lt s 0
  have e1 : ∀ _ : Unit, wrap64 (bt s 0) = (bn s 0 : Int) := fun _ => by rw [e0, w64 (by omega) (by omega)]
  simp only [e1 ()]
  rw [e0]
  by_cases h27 : bn s 0 = 27
  · have hp : pre s esc = true := (pre_esc s).mpr ⟨hs, h27⟩
    have hm := mid_same s (s.extract 1 s.size) true 1 hs hl rfl (.inl ⟨rfl, rfl, h27⟩) (fun v hv => by
      obtain ⟨t, _, ht, hi⟩ := Sent2 (getv (s.extract 1 s.size)).1
      have := ev_unique hv hi
      subst this
      cases t with
      | false => exact .inl rfl
      | true =>
        refine .inr fun x => ?_
        have h1 := ht rfl
        have := ((one_pre s _ (by omega)).mp x).2
        omega)
    refine hm.map (fun v h => ?_) (fun v h => ?_)
    · refine ev_pos (by omega) (ev_neg (by omega) (ev_succ ?_))
      simp only [spec_l13Key.j1, e0]
      exact ev_pos (by omega) (ev_pos (by omega) h)
    · refine ev_bind_of (cutPrefix_eq s) ?_
      rw [if_pos hp]
      exact ev_bind_of (impl_Get_eq _) h
  · have hp : ¬ pre s esc = true := fun x => h27 ((pre_esc s).mp x).2
    have impl : ∀ v, Ev (fun k => impl_pressed.l2 k s (getv s).1 false 0) v → Ev (fun k => (strings_CutPrefix.f s (⟨#[27]⟩ : ByteArray)).bind fun c => ((impl_Get.f c.1).bind fun g => (impl_pressed.l2 k s g.1 c.2 0))) v := by
      intro v h
      refine ev_bind_of (cutPrefix_eq s) ?_
      rw [if_neg hp]
      exact ev_bind_of (impl_Get_eq _) h
    have j1 : ∀ v, Ev (fun k => spec_l13Key.j2 k s 0 1 0 false) v → Ev (fun k => spec_l13Key.j1 k s) v := by
      intro v h
      refine ev_succ ?_
      simp only [spec_l13Key.j1, e0]
      exact ev_pos (by omega) (ev_neg (by omega) h)
    obtain ⟨t, hk, ht, hi⟩ := Sent2 (getv s).1
    by_cases hlow : bn s 0 < 27
    · have hg := get_low s hs (by omega)
      rw [hg] at hk ht hi
      cases t with
      | true =>
        rw [if_pos rfl] at hi
        have h1 := ht rfl
        refine ⟨2, (bn s 0 : Int), false, 1, by omega, ?_, .inr ⟨by omega, impl _ ?_, _, ?_, hi⟩⟩
        · exact ev_pos (by omega) (ev_pos (by omega) (ev_bind_of hk (ev_pos rfl (Ev.now _))))
        · obtain ⟨v1, _, hi1, hv1⟩ := Sent1 (getv s).1 false
          have hz : v1.size = 0 := by
            rcases hv1 with h | h
            · exact h
            · rw [hg] at h; omega
          have := l2_0 s (getv s).1 false v1 (strOfNums [(bn s 0 : Int)]) hi1 (by rw [hg]; exact hi)
          rw [if_neg (fun x => x.1 hz), if_pos ⟨by rw [strOfNums_size]; simp, (one_pre s _ (by omega)).mpr ⟨hs, rfl⟩⟩] at this
          rw [hg] at this ⊢
          exact this
        · rw [strOfNums_size]; rfl
      | false =>
        rw [if_neg (by simp)] at hi
        have hm := mid_same s s false 0 hs hl (ext_all s).symm (.inr ⟨rfl, rfl, h27⟩) (fun v hv => by
          rw [hg] at hv
          have := ev_unique hv hi
          subst this
          exact .inl rfl)
        refine hm.map (fun v h => ?_) impl
        exact ev_pos (by omega) (ev_pos (by omega) (ev_bind_of hk (ev_neg (by simp) (j1 v h))))
    · have hm := mid_same s s false 0 hs hl (ext_all s).symm (.inr ⟨rfl, rfl, h27⟩) (fun v hv => by
        have := ev_unique hv hi
        subst this
        cases t with
        | false => exact .inl rfl
        | true =>
          refine .inr fun x => ?_
          have h1 := ht rfl
          have := ((one_pre s _ (by omega)).mp x).2
          omega)
      refine hm.map (fun v h => ?_) impl
      exact ev_pos (by omega) (ev_neg (by omega) (j1 v h))
theorem loop_same (s : ByteArray) (hs : s.size ≠ 0) (hl : s.size < 4611686018427387904) : ∀ (d : Nat) (x : Int), x + d = 13 → 3 ≤ x → Both s (fun k => spec_l13Key.l0 k s x) (fun k => impl_pressed.l0 k s x) := by
  intro d
  induction d with
  | zero =>
    intro x hx h3
    refine (rest_same s hs hl).map (fun v h => ?_) (fun v h => ?_)
    · refine ev_succ ?_
      simp only [spec_l13Key.l0]
      exact ev_neg (by omega) h
    · refine ev_succ ?_
      simp only [impl_pressed.l0]
      exact ev_neg (by omega) h
  | succ d ih =>
    intro x hx h3
    have ht : 3 ≤ x ∧ x ≤ 12 := by omega
    have hz := sb_size x ht
    have hw : ∀ _ : Unit, wrap64 (x + 1) = x + 1 := fun _ => w64 (by omega) (by omega)
    by_cases p : pre s (sb x) = true
    · have h1 := (pre_iff s (sb x)).mp p
      refine ⟨x, 0, false, (sb x).size, h1.1, ev_succ ?_, .inr ⟨hz, ev_succ ?_, sb x, rfl, Sent_tens x ht⟩⟩
      · simp only [spec_l13Key.l0, Int.toNat_natCast]
        exact ev_pos (by omega) (Ev.bind (spec_tens x ht) (ev_pos (by omega) (ev_pos (by omega) (ev_pos (by omega) (ev_pos h1.2 (Ev.now _))))))
      · simp only [impl_pressed.l0]
        exact ev_pos (by omega) (ev_bind_of (impl_tens x ht) (ev_bind_of (hasPrefix_eq s _) (ev_pos p (Ev.now _))))
    · refine (ih (x + 1) (by omega) (by omega)).map (fun v h => ?_) (fun v h => ?_)
      · refine ev_succ ?_
        simp only [spec_l13Key.l0, Int.toNat_natCast, hw ()]
        refine ev_pos (by omega) (Ev.bind (spec_tens x ht) ?_)
        by_cases q : (sb x).size ≤ s.size
        · exact ev_pos (by omega) (ev_pos (by omega) (ev_pos (by omega) (ev_neg (fun y => p ((pre_iff _ _).mpr ⟨q, y⟩)) h)))
        · exact ev_neg (by omega) h
      · refine ev_succ ?_
        simp only [impl_pressed.l0, hw ()]
        exact ev_pos (by omega) (ev_bind_of (impl_tens x ht) (ev_bind_of (hasPrefix_eq s _) (ev_neg p h)))
theorem empty_pressed (s : ByteArray) (hs : s.size = 0) : ∀ (d : Nat) (x : Int), x + d = 13 → 3 ≤ x → Ev (fun k => impl_pressed.l0 k s x) (0, 0, false, false) := by
  have np : ∀ t : ByteArray, 1 ≤ t.size → ¬ pre s t = true := fun t ht x => by have := ((pre_iff s t).mp x).1; omega
  intro d
  induction d with
  | zero =>
    intro x hx h3
    refine ev_succ ?_
    simp only [impl_pressed.l0]
    refine ev_neg (by omega) (ev_bind_of (cutPrefix_eq s) ?_)
    rw [if_neg (np esc (by decide))]
    refine ev_bind_of (impl_Get_eq _) ?_
    obtain ⟨v1, _, hi1, hv1⟩ := Sent1 (getv s).1 false
    obtain ⟨t, _, ht, hi2⟩ := Sent2 (getv s).1
    have hg : getv s = (0, 0) := by unfold getv; rw [if_pos hs]
    have h1 : v1.size = 0 := by
      rcases hv1 with h | h
      · exact h
      · rw [hg] at h; omega
    have := l2_0 s (getv s).1 false v1 _ hi1 hi2
    rw [if_neg (fun x => x.1 h1), if_neg (fun x => np _ (by omega) x.2)] at this
    exact this
  | succ d ih =>
    intro x hx h3
    have ht : 3 ≤ x ∧ x ≤ 12 := by omega
    have hz := sb_size x ht
    have hw : ∀ _ : Unit, wrap64 (x + 1) = x + 1 := fun _ => w64 (by omega) (by omega)
    refine ev_succ ?_
    simp only [impl_pressed.l0, hw ()]
    exact ev_pos (by omega) (ev_bind_of (impl_tens x ht) (ev_bind_of (hasPrefix_eq s _) (ev_neg (np _ hz) (ih (x + 1) (by omega) (by omega)))))
theorem key_same (s : ByteArray) (hl : s.size < 4611686018427387904) : Both s (fun k => spec_l13Key.f k s) (fun k => impl_pressed.f k s) := by
  by_cases h : s.size = 0
  · exact ⟨0, 0, false, 0, by omega, ev_pos ((str_nil s).mpr h) (Ev.now _), .inl ⟨rfl, empty_pressed s h 10 3 rfl (by omega)⟩⟩
  · exact (loop_same s h hl 10 3 rfl (by omega)).map (fun v x => ev_neg (fun y => h ((str_nil s).mp y)) x) (fun v x => x)
theorem pressed_same : ∀ (f : Nat) (s : ByteArray) (o : List S50), s.size ≤ f → o.length + s.size < 5864062014805 → ∃ (l : List S50) (t : ByteArray), l.length ≤ o.length + s.size ∧ Ev (fun k => spec_Pressed.l0 k s o) (l, t) ∧ Ev (fun k => impl_Pressed.l0 k s o) (l, t) := by
  intro f
  induction f with
  | zero =>
    intro s o hf ho
    obtain ⟨a, b, c, n, hn, h1, h2⟩ := key_same s (by omega)
    obtain rfl : n = 0 := by omega
    refine ⟨o, s, by omega, ev_succ ?_, ev_succ ?_⟩
    · simp only [spec_Pressed.l0]
      exact Ev.bind h1 (ev_pos rfl (Ev.now _))
    · simp only [impl_Pressed.l0]
      rcases h2 with ⟨_, h2⟩ | h2
      · exact Ev.bind h2 (ev_neg (by simp) (Ev.now _))
      · omega
  | succ f ih =>
    intro s o hf ho
    obtain ⟨a, b, c, n, hn, h1, h2⟩ := key_same s (by omega)
    rcases h2 with ⟨rfl, h2⟩ | ⟨h3, h2, t, ht, h4⟩
    · refine ⟨o, s, by omega, ev_succ ?_, ev_succ ?_⟩
      · simp only [spec_Pressed.l0]
        exact Ev.bind h1 (ev_pos rfl (Ev.now _))
      · simp only [impl_Pressed.l0]
        exact Ev.bind h2 (ev_neg (by simp) (Ev.now _))
    · have hz := ext_size s n
      obtain ⟨l, u, hlu, e1, e2⟩ := ih (s.extract n s.size) (o ++ [⟨a, b, c⟩]) (by omega) (by rw [List.length_append]; simp only [List.length_cons, List.length_nil]; omega)
      rw [List.length_append] at hlu
      simp only [List.length_cons, List.length_nil] at hlu
      refine ⟨l, u, by omega, ev_succ ?_, ev_succ ?_⟩
      · simp only [spec_Pressed.l0]
        refine Ev.bind h1 ?_
        simp only [Int.toNat_natCast]
        exact ev_neg (by omega) (ev_pos (by omega) (ev_pos (by omega) (ev_pos (by omega) e1)))
      · simp only [impl_Pressed.l0, Int.toNat_natCast]
        refine Ev.bind h2 (ev_pos rfl (ev_pos (by omega) (Ev.bind h4 ?_)))
        rw [ht]
        exact ev_pos (by omega) (ev_pos (by omega) e2)

def fixr (r : Int) : Int := if rok r then r else 65533
theorem fixr_ok (r : Int) : rok (fixr r) = true := by
  unfold fixr
  split
  · assumption
  · decide
def encs (l : List Int) : List Int := l.flatMap fun r => enc (fixr r)
theorem encs_nil : encs [] = [] := rfl
theorem encs_cons (r : Int) (l : List Int) : encs (r :: l) = enc (fixr r) ++ encs l := by simp [encs]
theorem encs_append (a b : List Int) : encs (a ++ b) = encs a ++ encs b := by simp [encs]
theorem encs_length : ∀ l : List Int, (encs l).length ≤ 4 * l.length
  | [] => by simp [encs]
  | r :: l => by
    have := encs_length l
    have := enc_length (fixr r)
    rw [encs_cons, List.length_append, List.length_cons]; omega

/-- Runes in bytes, one behind the other. -/
def flat8 (m : List Int) : List Int := m.flatMap enc
theorem flat8_nil : flat8 [] = [] := rfl
theorem flat8_cons (r : Int) (m : List Int) : flat8 (r :: m) = enc r ++ flat8 m := by simp [flat8]
theorem flat8_append (a b : List Int) : flat8 (a ++ b) = flat8 a ++ flat8 b := by simp [flat8]
theorem encs_flat8 (l : List Int) : encs l = flat8 (l.map fixr) := by simp [encs, flat8, List.flatMap_map]
theorem flat8_range {m : List Int} (hm : ∀ r ∈ m, rok r = true) : ∀ x ∈ flat8 m, 0 ≤ x ∧ x ≤ 255 := by
  intro x hx
  simp only [flat8, List.mem_flatMap] at hx
  obtain ⟨r, hr, hx⟩ := hx
  exact enc_byte (hm r hr) x hx
theorem flat8_length : ∀ m : List Int, (flat8 m).length ≤ 4 * m.length
  | [] => by simp [flat8]
  | r :: m => by
    have := flat8_length m
    have := enc_length r
    rw [flat8_cons, List.length_append, List.length_cons]; omega
theorem bn_str (bs : List Int) (i : Nat) (h : i < bs.length) (hb : 0 ≤ bs[i] ∧ bs[i] ≤ 255) : bn (strOfNums bs) i = (bs[i]).toNat := by
  have hs : i < (strOfNums bs).size := by rw [strOfNums_size]; exact h
  unfold bn
  rw [← bn_get _ _ hs]
  show ((strOfNums bs).data[i]'hs).toNat = _
  simp [strOfNums]; omega
theorem str_extract (bs : List Int) (a b : Nat) : (strOfNums bs).extract a b = strOfNums ((bs.take b).drop a) := by
  apply ByteArray.ext
  rw [ByteArray.data_extract]
  apply Array.toList_inj.mp
  simp [strOfNums, Array.toList_extract, List.extract_eq_take_drop, List.map_drop, List.map_take, List.drop_take]
theorem enc_parts {r : Int} (h : rok r = true) : ∃ x xs, enc r = x :: xs ∧ (x < 128 ∨ 192 ≤ x) ∧ ∀ y ∈ xs, 128 ≤ y ∧ y < 192 := by
  have := rok_iff.mp h
  unfold enc
  split
  · exact ⟨_, _, rfl, by omega, by simp⟩
  · split
    · refine ⟨_, _, rfl, by omega, fun y hy => ?_⟩
      simp only [List.mem_cons, List.not_mem_nil, or_false] at hy; omega
    · split
      · refine ⟨_, _, rfl, by omega, fun y hy => ?_⟩
        simp only [List.mem_cons, List.not_mem_nil, or_false] at hy; omega
      · refine ⟨_, _, rfl, by omega, fun y hy => ?_⟩
        simp only [List.mem_cons, List.not_mem_nil, or_false] at hy; omega
/-- What is put is got. -/
theorem getv_enc {r : Int} (h : rok r = true) (c : List Int) : getv (strOfNums (enc r ++ c)) = (r, ((enc r).length : Int)) := by
  have hr := rok_iff.mp h
  have hsz : (strOfNums (enc r ++ c)).size = (enc r).length + c.length := by rw [strOfNums_size, List.length_append]
  have hp := enc_pos r
  have hb : ∀ (i : Nat) (hi : i < (enc r).length), bn (strOfNums (enc r ++ c)) i = ((enc r)[i]).toNat := by
    intro i hi
    have he : (enc r ++ c)[i]'(by rw [List.length_append]; omega) = (enc r)[i] := List.getElem_append_left hi
    rw [bn_str _ i (by rw [List.length_append]; omega) (by rw [he]; exact enc_byte h _ (List.getElem_mem _)), he]
  unfold getv
  rw [if_neg (by omega)]
  unfold dcv
  have hd : ∀ n b0 b1 b2 b3 k v, Lib.decodeN n b0 b1 b2 b3 = (v, k) → (((Lib.decodeN n b0 b1 b2 b3).1 : Int), ((Lib.decodeN n b0 b1 b2 b3).2 : Int)) = ((v : Int), (k : Int)) := by
    intro n b0 b1 b2 b3 k v e; rw [e]
  by_cases c1 : r < 128
  · have e : enc r = [r] := by unfold enc; rw [if_pos c1]
    have h0 := hb 0 (by rw [e]; simp)
    rw [hd _ _ _ _ _ 1 r.toNat ?_]
    · rw [e]; simp; omega
    · simp only [e, List.getElem_cons_zero] at h0
      rw [e, h0, ← e]; unfold Lib.decodeN; rw [if_pos (by omega)]
  by_cases c2 : r < 2048
  · have e : enc r = [192 + r / 64, 128 + r % 64] := by unfold enc; rw [if_neg c1, if_pos c2]
    have hl : (enc r).length = 2 := by rw [e]; rfl
    have h0 := hb 0 (by omega)
    have h1 := hb 1 (by omega)
    simp only [e, List.getElem_cons_zero, List.getElem_cons_succ] at h0 h1
    rw [hd _ _ _ _ _ 2 r.toNat ?_]
    · rw [hl]; simp; omega
    · rw [e, h0, h1, ← e]; unfold Lib.decodeN
      rw [if_neg (by omega), if_pos (by omega), if_pos (by omega)]
      exact Prod.ext (by simp only; omega) rfl
  by_cases c3 : r < 65536
  · have e : enc r = [224 + r / 4096, 128 + r / 64 % 64, 128 + r % 64] := by unfold enc; rw [if_neg c1, if_neg c2, if_pos c3]
    have hl : (enc r).length = 3 := by rw [e]; rfl
    have h0 := hb 0 (by omega)
    have h1 := hb 1 (by omega)
    have h2 := hb 2 (by omega)
    simp only [e, List.getElem_cons_zero, List.getElem_cons_succ] at h0 h1 h2
    rw [hd _ _ _ _ _ 3 r.toNat ?_]
    · rw [hl]; simp; omega
    · rw [e, h0, h1, h2, ← e]; unfold Lib.decodeN
      rw [if_neg (by omega), if_neg (by omega), if_pos (by omega), if_pos (by omega)]
      exact Prod.ext (by simp only; omega) rfl
  · have e : enc r = [240 + r / 262144, 128 + r / 4096 % 64, 128 + r / 64 % 64, 128 + r % 64] := by unfold enc; rw [if_neg c1, if_neg c2, if_neg c3]
    have hl : (enc r).length = 4 := by rw [e]; rfl
    have h0 := hb 0 (by omega)
    have h1 := hb 1 (by omega)
    have h2 := hb 2 (by omega)
    have h3 := hb 3 (by omega)
    simp only [e, List.getElem_cons_zero, List.getElem_cons_succ] at h0 h1 h2 h3
    rw [hd _ _ _ _ _ 4 r.toNat ?_]
    · rw [hl]; simp; omega
    · rw [e, h0, h1, h2, h3, ← e]; unfold Lib.decodeN
      rw [if_neg (by omega), if_neg (by omega), if_neg (by omega), if_pos (by omega), if_pos (by omega)]
      exact Prod.ext (by simp only; omega) rfl

theorem bn_append (s t : ByteArray) (i : Nat) : bn (s ++ t) i = if i < s.size then bn s i else bn t (i - s.size) := by
  have hd : (s ++ t).data = s.data ++ t.data := ByteArray.data_append
  have hg : ∀ (u : ByteArray) (j : Nat), u.get! j = u.data[j]! := fun u j => by cases u; rfl
  have hsz : s.size = s.data.size := rfl
  unfold bn
  rw [hg, hg, hg, hd]
  by_cases h : i < s.size
  · rw [if_pos h]
    rw [hsz] at h
    congr 1
    rw [getElem!_pos s.data i h, getElem!_pos (s.data ++ t.data) i (by rw [Array.size_append]; omega), Array.getElem_append_left h]
  · rw [if_neg h]
    rw [hsz] at h ⊢
    congr 1
    by_cases h2 : i - s.data.size < t.data.size
    · rw [getElem!_pos t.data _ h2, getElem!_pos (s.data ++ t.data) i (by rw [Array.size_append]; omega), Array.getElem_append_right (by omega)]
    · rw [getElem!_neg t.data _ h2, getElem!_neg (s.data ++ t.data) i (by rw [Array.size_append]; omega)]

theorem rdk {l : List S50} {i : Nat} (h : i < l.length) : rd_T50 l (i : Int) = l[i] := by
  unfold rd_T50; rw [Int.toNat_natCast, List.getD_eq_getElem?_getD, List.getElem?_eq_getElem h]; rfl

theorem strc (a b : List Int) : strOfNums (a ++ b) = strOfNums a ++ strOfNums b := by
  apply ByteArray.ext
  simp [strOfNums, ByteArray.data_append]
def kokv (a b : Int) (c : Bool) : Bool := if a = 1 then (rok b && decide (32 ≤ b) && !(b == 127) && !(c && (b == 91))) else if a = 2 then (decide (1 ≤ b) && decide (b ≤ 26) && !(b == 9) && !(b == 13) && !c) else (decide (3 ≤ a) && decide (a ≤ 12) && (b == 0) && !c)
theorem impl_KeyOk_eq (a b : Int) (c : Bool) : impl_KeyOk.f a b c = some (kokv a b c) := by
  simp only [impl_KeyOk.f, impl_RuneOk_eq, impl_in_eq, Option.bind_some]
  unfold kokv
  by_cases h1 : a = 1
  · rw [if_pos h1, if_pos h1]
    by_cases h2 : rok b = true
    · rw [if_pos h2, h2]
      by_cases h3 : b ≥ 32
      · rw [if_pos h3, decide_eq_true h3]
        by_cases h4 : b = 127
        · rw [if_pos h4]; subst h4; rfl
        · rw [if_neg h4, beq_eq_false_iff_ne.mpr h4]
          cases c with
          | true => rw [if_pos rfl]; simp [bne]
          | false => rw [if_neg (by simp)]; rfl
      · rw [if_neg h3, decide_eq_false h3]; rfl
    · rw [if_neg h2, Bool.eq_false_iff.mpr h2]; rfl
  · rw [if_neg h1, if_neg h1]
    by_cases h2 : a = 2
    · rw [if_pos h2, if_pos h2]
      by_cases h3 : (decide (1 ≤ b) && decide (b ≤ 26)) = true
      · rw [if_pos h3, h3]
        by_cases h4 : b = 9
        · rw [if_pos h4]; subst h4; rfl
        · rw [if_neg h4, beq_eq_false_iff_ne.mpr h4]
          by_cases h5 : b = 13
          · rw [if_pos h5]; subst h5; rfl
          · rw [if_neg h5, beq_eq_false_iff_ne.mpr h5]; rfl
      · rw [if_neg h3, Bool.eq_false_iff.mpr h3]; rfl
    · rw [if_neg h2, if_neg h2]
      by_cases h3 : (decide (3 ≤ a) && decide (a ≤ 12)) = true
      · rw [if_pos h3, h3]
        by_cases h4 : b = 0
        · rw [if_pos h4]; subst h4; rfl
        · rw [if_neg h4, beq_eq_false_iff_ne.mpr h4]; rfl
      · rw [if_neg h3, Bool.eq_false_iff.mpr h3]; rfl
theorem kokv_tells {a b : Int} {c : Bool} (h : kokv a b c = true) : (a = 1 ∧ rok b = true ∧ 32 ≤ b ∧ b ≠ 127 ∧ (c = true → b ≠ 91)) ∨ (a = 2 ∧ 1 ≤ b ∧ b ≤ 26 ∧ b ≠ 9 ∧ b ≠ 13 ∧ c = false) ∨ (3 ≤ a ∧ a ≤ 12 ∧ b = 0 ∧ c = false) := by
  unfold kokv at h
  by_cases h1 : a = 1
  · rw [if_pos h1] at h
    simp only [Bool.and_eq_true, decide_eq_true_eq, Bool.not_eq_true', beq_eq_false_iff_ne, Bool.and_eq_false_imp] at h
    exact .inl ⟨h1, h.1.1.1, h.1.1.2, h.1.2, h.2⟩
  · rw [if_neg h1] at h
    by_cases h2 : a = 2
    · rw [if_pos h2] at h
      simp only [Bool.and_eq_true, decide_eq_true_eq, Bool.not_eq_true', beq_eq_false_iff_ne] at h
      exact .inr (.inl ⟨h2, h.1.1.1.1, h.1.1.1.2, h.1.1.2, h.1.2, h.2⟩)
    · rw [if_neg h2] at h
      simp only [Bool.and_eq_true, decide_eq_true_eq, Bool.not_eq_true', beq_iff_eq] at h
      exact .inr (.inr ⟨h.1.1.1, h.1.1.2, h.1.2, h.2⟩)
/-- What a key sends. -/
def sndv (a b : Int) (c : Bool) : ByteArray := if kokv a b c = true then (if a = 2 then strOfNums [b] else if a = 1 then (if c = true then esc ++ putv b else putv b) else sb a) else ⟨#[]⟩
theorem impl_Sent_ev (a b : Int) (c : Bool) : Ev (fun k => impl_Sent.f k a b c) (sndv a b c) := by
  unfold impl_Sent.f sndv
  refine ev_bind_of (impl_KeyOk_eq a b c) ?_
  by_cases h : kokv a b c = true
  · rw [if_pos h]
    refine ev_pos h ?_
    rcases kokv_tells h with ⟨rfl, h⟩ | ⟨rfl, h⟩ | h
    · rw [if_neg (show ¬ (1 : Int) = 2 by decide), if_pos rfl]
      refine ev_neg (by omega) (ev_pos rfl (ev_succ ?_))
      simp only [impl_Sent.j0]
      have := putv_size b
      cases c with
      | true => exact ev_pos (by trivial) (Ev.bind (impl_Put_ev b) (ev_pos (by omega) (Ev.now _)))
      | false => exact ev_neg (by simp) (ev_pos (by trivial) (Ev.bind (impl_Put_ev b) (Ev.now _)))
    · rw [if_pos rfl]
      refine ev_pos rfl (ev_eq (Ev.now _) ?_)
      rw [Int.emod_eq_of_lt (by omega) (by omega)]
    · rw [if_neg (by omega), if_neg (by omega)]
      refine ev_neg (by omega) (ev_neg (by omega) (ev_succ ?_))
      simp only [impl_Sent.j0]
      exact ev_neg (by simp) (ev_neg (by omega) (ev_bind_of (impl_tens a ⟨h.1, h.2.1⟩) (Ev.now _)))
  · rw [if_neg h]
    exact ev_neg h (Ev.now _)
theorem sb_le (a : Int) (h : 3 ≤ a ∧ a ≤ 12) : (sb a).size ≤ 4 := by
  rcases ten_cases h with rfl | rfl | rfl | rfl | rfl | rfl | rfl | rfl | rfl | rfl
  all_goals decide
theorem sndv_size (a b : Int) (c : Bool) : (sndv a b c).size ≤ 5 ∧ ((sndv a b c).size ≠ 0 ↔ kokv a b c = true) := by
  unfold sndv
  by_cases h : kokv a b c = true
  · rw [if_pos h]
    have hp := putv_size b
    rcases kokv_tells h with ⟨rfl, hr, _⟩ | ⟨rfl, _⟩ | h2
    · rw [if_neg (show ¬ (1 : Int) = 2 by decide), if_pos rfl]
      have h1 := putv_size_rok b hr
      have h3 := enc_pos b
      cases c with
      | true =>
        rw [if_pos rfl, ByteArray.size_append, esc_size]
        exact ⟨by omega, fun _ => h, fun _ => by omega⟩
      | false =>
        rw [if_neg (by simp)]
        exact ⟨by omega, fun _ => h, fun _ => by omega⟩
    · rw [if_pos rfl, strOfNums_size]
      exact ⟨by simp, fun _ => h, fun _ => by simp⟩
    · rw [if_neg (by omega), if_neg (by omega)]
      have h4 := sb_size a ⟨h2.1, h2.2.1⟩
      have h5 := sb_le a ⟨h2.1, h2.2.1⟩
      exact ⟨by omega, fun _ => h, fun _ => by omega⟩
  · rw [if_neg h]
    exact ⟨by decide, fun x => absurd rfl x, fun x => absurd x h⟩
theorem toList_inj {s t : ByteArray} (h : s.toList = t.toList) : s = t := by
  rw [Lib.toList_data, Lib.toList_data] at h
  exact ByteArray.ext (Array.toList_inj.mp h)
theorem pre_parts {s t : ByteArray} (h : pre s t = true) : s = t ++ s.extract t.size s.size := by
  have h1 := (pre_iff s t).mp h
  have h2 : s.extract 0 t.size = t := toList_inj h1.2
  have h3 : s.extract 0 t.size ++ s.extract t.size s.size = s := by
    rw [ByteArray.extract_append_extract, Nat.min_eq_left (Nat.zero_le _), Nat.max_eq_right h1.1]; exact ext_all s
  rw [h2] at h3
  exact h3.symm
theorem pre_cat (t u : ByteArray) : pre (t ++ u) t = true := (pre_iff _ _).mpr ⟨by rw [ByteArray.size_append]; omega, by rw [ByteArray.extract_append_eq_left rfl]⟩
theorem pre_bn {s t : ByteArray} (h : pre s t = true) (i : Nat) (hi : i < t.size) : bn s i = bn t i := by
  have h1 := pre_parts h
  rw [h1, bn_append, if_pos hi]
def tenv : Nat → Int → ByteArray → Option Int
  | 0, _, _ => none
  | f + 1, x, s => if pre s (sb x) = true then some x else tenv f (x + 1) s
theorem tenv_none (s : ByteArray) : ∀ (f : Nat) (x : Int), (∀ y, x ≤ y → y < x + f → ¬ pre s (sb y) = true) → tenv f x s = none
  | 0, _, _ => rfl
  | f + 1, x, h => by
    unfold tenv
    rw [if_neg (h x (Int.le_refl _) (by omega))]
    exact tenv_none s f (x + 1) (fun y h1 h2 => h y (by omega) (by omega))
theorem tenv_hit (s : ByteArray) (z : Int) (hz : pre s (sb z) = true) : ∀ (f : Nat) (x : Int), x ≤ z → z < x + f → (∀ y, x ≤ y → y < z → ¬ pre s (sb y) = true) → tenv f x s = some z
  | 0, _, h1, h2, _ => by omega
  | f + 1, x, h1, h2, h => by
    unfold tenv
    by_cases e : x = z
    · subst e; rw [if_pos hz]
    · rw [if_neg (h x (Int.le_refl _) (by omega))]
      exact tenv_hit s z hz f (x + 1) (by omega) (by omega) (fun y h1 h2 => h y (by omega) h2)
theorem tenv_sound (s : ByteArray) (z : Int) : ∀ (f : Nat) (x : Int), tenv f x s = some z → x ≤ z ∧ z < x + f ∧ pre s (sb z) = true
  | 0, _, h => by cases h
  | f + 1, x, h => by
    unfold tenv at h
    by_cases p : pre s (sb x) = true
    · rw [if_pos p] at h
      obtain rfl := Option.some.inj h
      exact ⟨Int.le_refl _, by omega, p⟩
    · rw [if_neg p] at h
      have := tenv_sound s z f (x + 1) h
      exact ⟨by omega, by omega, this.2.2⟩
def lowv (s : ByteArray) (r : Int) (c : Bool) : Int × Int × Bool × Bool := if (sndv 1 r c).size ≠ 0 ∧ pre s (sndv 1 r c) = true then (1, r, c, true) else if (sndv 2 r false).size ≠ 0 ∧ pre s (sndv 2 r false) = true then (2, r, false, true) else (0, 0, false, false)
def cutv (s : ByteArray) : ByteArray × Bool := if pre s esc = true then (s.extract 1 s.size, true) else (s, false)
def prv (s : ByteArray) : Int × Int × Bool × Bool := match tenv 10 3 s with
  | some x => (x, 0, false, true)
  | none => lowv s (getv (cutv s).1).1 (cutv s).2
theorem pressed_l0 (s : ByteArray) : ∀ (f : Nat) (x : Int), x + f = 13 → 3 ≤ x → Ev (fun k => impl_pressed.l0 k s x) (match tenv f x s with | some x => (x, 0, false, true) | none => lowv s (getv (cutv s).1).1 (cutv s).2) := by
  intro f
  induction f with
  | zero =>
    intro x hx h3
    refine ev_succ ?_
    simp only [impl_pressed.l0]
    refine ev_neg (by omega) (ev_bind_of (cutPrefix_eq s) ?_)
    refine ev_bind_of (impl_Get_eq _) ?_
    exact l2_0 s _ _ _ _ (impl_Sent_ev 1 _ _) (impl_Sent_ev 2 _ false)
  | succ f ih =>
    intro x hx h3
    have ht : 3 ≤ x ∧ x ≤ 12 := by omega
    have hw : ∀ _ : Unit, wrap64 (x + 1) = x + 1 := fun _ => w64 (by omega) (by omega)
    refine ev_succ ?_
    simp only [impl_pressed.l0, hw ()]
    refine ev_pos (by omega) (ev_bind_of (impl_tens x ht) (ev_bind_of (hasPrefix_eq s _) ?_))
    unfold tenv
    by_cases p : pre s (sb x) = true
    · rw [if_pos p]; exact ev_pos p (Ev.now _)
    · rw [if_neg p]; exact ev_neg p (ih (x + 1) (by omega) (by omega))
theorem impl_pressed_ev (s : ByteArray) : Ev (fun k => impl_pressed.f k s) (prv s) := pressed_l0 s 10 3 rfl (by omega)
theorem sndv_ten {z : Int} (h : 3 ≤ z ∧ z ≤ 12) : kokv z 0 false = true ∧ sndv z 0 false = sb z := by
  have hk : kokv z 0 false = true := by
    rcases ten_cases h with rfl | rfl | rfl | rfl | rfl | rfl | rfl | rfl | rfl | rfl
    all_goals rfl
  refine ⟨hk, ?_⟩
  unfold sndv
  rw [if_pos hk, if_neg (by omega), if_neg (by omega)]
theorem prv_sound (s : ByteArray) : (prv s = (0, 0, false, false)) ∨ ∃ a b c, prv s = (a, b, c, true) ∧ kokv a b c = true ∧ pre s (sndv a b c) = true := by
  unfold prv
  cases h : tenv 10 3 s with
  | some z =>
    have ht := tenv_sound s z 10 3 h
    have hz := sndv_ten (z := z) (by omega)
    exact .inr ⟨z, 0, false, rfl, hz.1, by rw [hz.2]; exact ht.2.2⟩
  | none =>
    show lowv s _ _ = _ ∨ ∃ a b c, lowv s _ _ = _ ∧ _
    unfold lowv
    generalize (getv (cutv s).1).1 = r
    generalize (cutv s).2 = c
    by_cases h1 : (sndv 1 r c).size ≠ 0 ∧ pre s (sndv 1 r c) = true
    · rw [if_pos h1]; exact .inr ⟨1, r, c, rfl, (sndv_size 1 r c).2.mp h1.1, h1.2⟩
    · rw [if_neg h1]
      by_cases h2 : (sndv 2 r false).size ≠ 0 ∧ pre s (sndv 2 r false) = true
      · rw [if_pos h2]; exact .inr ⟨2, r, false, rfl, (sndv_size 2 r false).2.mp h2.1, h2.2⟩
      · rw [if_neg h2]; exact .inl rfl
theorem tens_head (x : Int) (h : 3 ≤ x ∧ x ≤ 12) : (bn (sb x) 0 = 13 ∨ bn (sb x) 0 = 9 ∨ bn (sb x) 0 = 127) ∨ (bn (sb x) 0 = 27 ∧ 3 ≤ (sb x).size ∧ bn (sb x) 1 = 91) := by
  rcases ten_cases h with rfl | rfl | rfl | rfl | rfl | rfl | rfl | rfl | rfl | rfl
  all_goals decide +kernel
theorem tens_apart : ∀ z ∈ List.range 13, ∀ x ∈ List.range z, 3 ≤ x → ∃ i ∈ List.range 3, i < (sb (x : Int)).size ∧ i < (sb (z : Int)).size ∧ bn (sb (x : Int)) i ≠ bn (sb (z : Int)) i := by decide +kernel
/-- What a right key sends is told as that key, whatever stands behind it. -/
theorem prv_snd (a b : Int) (c : Bool) (u : ByteArray) (h : kokv a b c = true) : prv (sndv a b c ++ u) = (a, b, c, true) := by
  have hpre := pre_cat (sndv a b c) u
  have hsz := (sndv_size a b c).2.mpr h
  have hs : sndv a b c = (if a = 2 then strOfNums [b] else if a = 1 then (if c = true then esc ++ putv b else putv b) else sb a) := by unfold sndv; rw [if_pos h]
  rcases kokv_tells h with ⟨rfl, hr, h32, h127, h91⟩ | ⟨rfl, h1, h26, h9, h13, rfl⟩ | ⟨h3, h12, rfl, rfl⟩
  · rw [if_neg (show ¬ (1 : Int) = 2 by decide), if_pos rfl] at hs
    have hp : putv b = strOfNums (enc b) := by unfold putv; rw [if_pos hr]
    have hep := enc_pos b
    obtain ⟨y, ys, hys, hy, _⟩ := enc_parts hr
    have hyr := enc_byte hr y (by rw [hys]; exact List.mem_cons_self ..)
    have hy0 : (b < 128 → y = b) := by
      intro hb
      have : enc b = [b] := by unfold enc; rw [if_pos hb]
      rw [this] at hys
      injection hys with hys _
      exact hys.symm
    have hyb : b ≥ 128 → 192 ≤ y := by
      intro hb
      rcases hy with hy | hy
      · have := enc_parts hr
        have : enc b ≠ [y] ∨ True := .inr trivial
        unfold enc at hys
        rw [if_neg (by omega)] at hys
        split at hys
        · injection hys with hys _; omega
        · split at hys
          · injection hys with hys _; omega
          · injection hys with hys _; omega
      · exact hy
    have hb0 : bn (putv b) 0 = y.toNat := by
      have h0 : 0 < (enc b).length := hep
      have he0 : (enc b)[0] = y := by simp [hys]
      rw [hp, bn_str _ 0 h0 (by rw [he0]; exact hyr), he0]
    have hput := putv_size_rok b hr
    have hg : ∀ v, getv (putv b ++ v) = (b, ((enc b).length : Int)) := by
      intro v
      have e1 : strOfNums (v.data.toList.map fun x => (x.toNat : Int)) = v := by
        apply ByteArray.ext
        have e0 : ((fun n : Int => UInt8.ofNat n.toNat) ∘ fun x : UInt8 => (x.toNat : Int)) = id := by funext x; simp
        show ((v.data.toList.map fun x => (x.toNat : Int)).map fun n => UInt8.ofNat n.toNat).toArray = v.data
        rw [List.map_map, e0, List.map_id]
      rw [hp, ← e1, ← strc]
      exact getv_enc hr _
    cases c with
    | false =>
      rw [if_neg (by simp)] at hs
      have hfirst : bn (sndv 1 b false ++ u) 0 = y.toNat := by rw [hs, bn_append, if_pos (by omega), hb0]
      have hne : ¬ (y = 13 ∨ y = 9 ∨ y = 127 ∨ y = 27) := by
        by_cases q : b < 128
        · rw [hy0 q]; omega
        · have := hyb (by omega); omega
      have hno : tenv 10 3 (sndv 1 b false ++ u) = none := by
        refine tenv_none _ 10 3 (fun x h1 h2 hx => ?_)
        have hx0 := sb_size x (by omega)
        have := pre_bn hx 0 (by omega)
        rw [hfirst] at this
        have ht := tens_head x (by omega)
        omega
      have hcut : cutv (sndv 1 b false ++ u) = (sndv 1 b false ++ u, false) := by
        unfold cutv
        rw [if_neg (fun x => by have := ((pre_esc _).mp x).2; rw [hfirst] at this; omega)]
      unfold prv
      rw [hno, hcut]
      show lowv _ (getv (sndv 1 b false ++ u)).1 false = _
      have hgv : (getv (sndv 1 b false ++ u)).1 = b := by rw [hs, hg]
      rw [hgv]
      unfold lowv
      rw [if_pos ⟨hsz, hpre⟩]
    | true =>
      rw [if_pos rfl] at hs
      have hfirst : bn (sndv 1 b true ++ u) 0 = 27 := by rw [hs, bn_append, if_pos (by rw [ByteArray.size_append, esc_size]; omega), bn_append, if_pos (by rw [esc_size]; omega)]; rfl
      have hsec : bn (sndv 1 b true ++ u) 1 = y.toNat := by rw [hs, bn_append, if_pos (by rw [ByteArray.size_append, esc_size]; omega), bn_append, if_neg (by rw [esc_size]; omega), esc_size, hb0]
      have hne : y ≠ 91 := by
        by_cases q : b < 128
        · rw [hy0 q]; exact h91 rfl
        · have := hyb (by omega); omega
      have hno : tenv 10 3 (sndv 1 b true ++ u) = none := by
        refine tenv_none _ 10 3 (fun x h1 h2 hx => ?_)
        have hx0 := sb_size x (by omega)
        have p0 := pre_bn hx 0 (by omega)
        rw [hfirst] at p0
        rcases tens_head x (by omega) with ht | ⟨_, ht1, ht2⟩
        · omega
        · have p1 := pre_bn hx 1 (by omega)
          rw [hsec, ht2] at p1
          omega
      have hcut : cutv (sndv 1 b true ++ u) = ((sndv 1 b true ++ u).extract 1 (sndv 1 b true ++ u).size, true) := by
        unfold cutv
        rw [if_pos ((pre_esc _).mpr ⟨by rw [ByteArray.size_append]; omega, hfirst⟩)]
      have hrest : (sndv 1 b true ++ u).extract 1 (sndv 1 b true ++ u).size = putv b ++ u := by
        rw [hs, ByteArray.append_assoc, ByteArray.extract_append, esc_size]
        have e1 : esc.extract 1 (esc ++ (putv b ++ u)).size = (⟨#[]⟩ : ByteArray) := by
          apply ByteArray.ext
          simp [esc, ByteArray.data_extract]
        rw [e1, ByteArray.size_append, esc_size, Nat.sub_self, show 1 + (putv b ++ u).size - 1 = (putv b ++ u).size by omega, ext_all]
        exact ByteArray.empty_append
      unfold prv
      rw [hno, hcut]
      show lowv _ (getv ((sndv 1 b true ++ u).extract 1 (sndv 1 b true ++ u).size)).1 true = _
      rw [hrest, hg]
      unfold lowv
      rw [if_pos ⟨hsz, hpre⟩]
  · rw [if_pos rfl] at hs
    have hb0 : bn (strOfNums [b]) 0 = b.toNat := bn_str [b] 0 (by simp) ⟨by show 0 ≤ b; omega, by show b ≤ 255; omega⟩
    have hfirst : bn (sndv 2 b false ++ u) 0 = b.toNat := by rw [hs, bn_append, if_pos (by rw [strOfNums_size]; simp), hb0]
    have hno : tenv 10 3 (sndv 2 b false ++ u) = none := by
      refine tenv_none _ 10 3 (fun x h1 h2 hx => ?_)
      have hx0 := sb_size x (by omega)
      have := pre_bn hx 0 (by omega)
      rw [hfirst] at this
      have ht := tens_head x (by omega)
      omega
    have hcut : cutv (sndv 2 b false ++ u) = (sndv 2 b false ++ u, false) := by
      unfold cutv
      rw [if_neg (fun x => by have := ((pre_esc _).mp x).2; rw [hfirst] at this; omega)]
    have hgv : (getv (sndv 2 b false ++ u)).1 = b := by
      rw [get_low _ (by rw [ByteArray.size_append]; omega) (by rw [hfirst]; omega), hfirst]
      show ((b.toNat : Nat) : Int) = b
      omega
    unfold prv
    rw [hno, hcut]
    show lowv _ (getv (sndv 2 b false ++ u)).1 false = _
    rw [hgv]
    have hk1 : kokv 1 b false = false := by
      cases hq : kokv 1 b false with
      | false => rfl
      | true => rcases kokv_tells hq with h | h | h <;> omega
    unfold lowv
    rw [if_neg (fun x => by have := (sndv_size 1 b false).2.mp x.1; rw [hk1] at this; cases this), if_pos ⟨hsz, hpre⟩]
  · have hz := sndv_ten (z := a) ⟨h3, h12⟩
    rw [hz.2] at hpre ⊢
    have hit : tenv 10 3 (sb a ++ u) = some a := by
      refine tenv_hit _ a hpre 10 3 h3 (by omega) (fun x h1 h2 hx => ?_)
      obtain ⟨i, _, i1, i2, i3⟩ := tens_apart a.toNat (List.mem_range.mpr (by omega)) x.toNat (List.mem_range.mpr (by omega)) (by omega)
      rw [show ((x.toNat : Nat) : Int) = x by omega, show ((a.toNat : Nat) : Int) = a by omega] at i3
      rw [show ((x.toNat : Nat) : Int) = x by omega] at i1
      rw [show ((a.toNat : Nat) : Int) = a by omega] at i2
      have e1 := pre_bn hx i i1
      have e2 := pre_bn hpre i i2
      exact i3 (e1.symm.trans e2)
    unfold prv
    rw [hit]

theorem spec_l1New_some (l : List Int) (hl : l.length < 4611686018427387904) : ∃ h, Ev (fun k => spec_l1New.f k l) (l, 0, h) := by
  have go : ∀ (d i : Nat) (x : Int), i + d = l.length → ∃ h, Ev (fun k => spec_l1New.l0 k l x (i : Int)) (l, 0, h) := by
    intro d
    induction d with
    | zero =>
      intro i x h
      refine ⟨x, ev_succ ?_⟩
      simp only [spec_l1New.l0]
      exact ev_neg (by omega) (Ev.now _)
    | succ d ih =>
      intro i x h
      obtain ⟨h', e⟩ := ih (i + 1) (Go.bits .and .i64 (wrap64 ((wrap64 ((wrap64 (x * 137)) + (wrap64 (rd l (i : Int))))) + 11)) 1073741823) (by omega)
      refine ⟨h', ev_succ ?_⟩
      simp only [spec_l1New.l0, w64 (x := (i : Int) + 1) (by omega) (by omega)]
      exact ev_pos (by omega) (ev_pos (by omega) e)
  exact go l.length 0 _ (by omega)

theorem and255 (x : Int) : 0 ≤ Go.bits .and .i64 x 255 ∧ Go.bits .and .i64 x 255 ≤ 255 := by
  have h : ((BitVec.ofInt 64 x &&& BitVec.ofInt 64 255).toNat : Int) ≤ 255 := by
    rw [BitVec.toNat_and]
    have : (BitVec.ofInt 64 x).toNat &&& (BitVec.ofInt 64 255).toNat ≤ (BitVec.ofInt 64 255).toNat := Nat.and_le_right
    have e : (BitVec.ofInt 64 255).toNat = 255 := by decide
    omega
  have w : Go.bits .and .i64 x 255 = IntKind.i64.wrap ((BitVec.ofInt 64 x &&& BitVec.ofInt 64 255).toNat : Int) := rfl
  rw [w, IntKind.wrap_i64]
  omega
/-- A draw's byte. -/
theorem spec_l1Byte_some (b : List Int) (hb : b.length < 4611686018427387904) (i h : Int) (hi : 0 ≤ i) :
    ∃ v i' h', spec_l1Byte.f b i h = some (v, i', h') ∧ 0 ≤ v ∧ v ≤ 255 ∧ 0 ≤ i' := by
  unfold spec_l1Byte.f
  by_cases c : i < (b.length : Int)
  · rw [if_pos c, if_pos hi]
    exact ⟨_, _, _, rfl, (and255 _).1, (and255 _).2, by rw [w64 (by omega) (by omega)]; omega⟩
  · rw [if_neg c]
    exact ⟨_, _, _, rfl, (and255 _).1, (and255 _).2, hi⟩
theorem spec_l1Below_some (b : List Int) (hb : b.length < 4611686018427387904) (i h n : Int) (hi : 0 ≤ i) (hn : n < 4611686018427387904) :
    ∃ v i' h', spec_l1Below.f b i h n = some (v, i', h') ∧ 0 ≤ v ∧ (v < n ∨ (n ≤ 0 ∧ v = 0)) ∧ 0 ≤ i' := by
  unfold spec_l1Below.f
  by_cases c : n ≤ 0
  · rw [if_pos c]; exact ⟨0, i, h, rfl, by omega, .inr ⟨c, rfl⟩, hi⟩
  · rw [if_neg c]
    by_cases c2 : n ≤ 256
    · rw [if_pos c2]
      obtain ⟨v, i', h', e, h0, h1, h2⟩ := spec_l1Byte_some b hb i h hi
      rw [e]
      simp only [Option.bind_some]
      rw [if_neg (by omega), Int.tmod_eq_emod_of_nonneg h0]
      exact ⟨_, _, _, rfl, Int.emod_nonneg _ (by omega), .inl (Int.emod_lt_of_pos _ (by omega)), h2⟩
    · rw [if_neg c2]
      obtain ⟨x, i1, h1, e1, x0, x1, j1⟩ := spec_l1Byte_some b hb i h hi
      obtain ⟨y, i2, h2, e2, y0, y1, j2⟩ := spec_l1Byte_some b hb i1 h1 j1
      obtain ⟨z, i3, h3, e3, z0, z1, j3⟩ := spec_l1Byte_some b hb i2 h2 j2
      obtain ⟨u, i4, h4, e4, u0, u1, j4⟩ := spec_l1Byte_some b hb i3 h3 j3
      rw [e1]; simp only [Option.bind_some]
      rw [e2]; simp only [Option.bind_some]
      rw [e3]; simp only [Option.bind_some]
      rw [e4]; simp only [Option.bind_some]
      rw [if_neg (by omega), w64 (x := x * 16777216) (by omega) (by omega), w64 (x := y * 65536) (by omega) (by omega), w64 (x := z * 256) (by omega) (by omega), w64 (x := x * 16777216 + y * 65536) (by omega) (by omega),
        w64 (x := x * 16777216 + y * 65536 + z * 256) (by omega) (by omega), w64 (x := x * 16777216 + y * 65536 + z * 256 + u) (by omega) (by omega), Int.tmod_eq_emod_of_nonneg (by omega)]
      exact ⟨_, _, _, rfl, Int.emod_nonneg _ (by omega), .inl (Int.emod_lt_of_pos _ (by omega)), j4⟩

theorem spec_l1Once_some (b : List Int) (hb : b.length < 4611686018427387904) (i h n : Int) (hi : 0 ≤ i) (hn : n < 4611686018427387904) :
    ∃ v i' h', spec_l1Once.f b i h n = some (v, i', h') ∧ 0 ≤ i' := by
  unfold spec_l1Once.f
  obtain ⟨v, i', h', e, _, _, h2⟩ := spec_l1Below_some b hb i h n hi hn
  rw [e]
  exact ⟨_, _, _, rfl, h2⟩

theorem bend_loop (l : List Int) (hl : l.length < 4611686018427387904) (g : ByteArray) (hg : 1 ≤ g.size ∧ g.size < 4611686018427387904) : ∀ (d : Nat) (x : List Int) (n i h : Int), n ≤ d → -1000 ≤ n → n ≤ 1000 → 0 ≤ i → x.length + d ≤ 1000 →
    ∃ s i' h', Ev (fun k => spec_l13Bend.l0 k g x n l i h) (s, i', h') ∧ s.size ≤ x.length + d ∧ 0 ≤ i' := by
  intro d
  induction d with
  | zero =>
    intro x n i h hn _ _ hi hx
    refine ⟨strOfNums x, i, h, ev_succ ?_, by rw [strOfNums_size]; omega, hi⟩
    simp only [spec_l13Bend.l0]
    refine ev_neg (by omega) (ev_succ ?_)
    simp only [spec_l13Bend.j1]
    exact ev_neg (by simp) (Ev.now _)
  | succ d ih =>
    intro x n i h hn h1 h2 hi hx
    have stop : ∀ q : Bool, q = false → Ev (fun k => spec_l13Bend.j1 k g x n q l i h) (strOfNums x, i, h) := by
      rintro q rfl
      refine ev_succ ?_
      simp only [spec_l13Bend.j1]
      exact ev_neg (by simp) (Ev.now _)
    by_cases c : n > 0
    · by_cases c2 : (x.length : Int) > 0
      · obtain ⟨v, i1, w1, e1, v0, v1, j1⟩ := spec_l1Below_some l hl i h (x.length : Int) hi (by omega)
        obtain ⟨a, i2, w2, e2, a0, a1, j2⟩ := spec_l1Below_some l hl i1 w1 4 j1 (by omega)
        have hw : wrap64 (n - 1) = n - 1 := w64 (by omega) (by omega)
        have hw2 : wrap64 (v + 1) = v + 1 := w64 (by omega) (by omega)
        have key : ∀ (y : List Int) (i3 w3 : Int), 0 ≤ i3 → y.length ≤ x.length + 1 → ∃ s i' h', Ev (fun k => spec_l13Bend.l0 k g y (n - 1) l i3 w3) (s, i', h') ∧ s.size ≤ x.length + (d + 1) ∧ 0 ≤ i' := by
          intro y i3 w3 q1 q2
          obtain ⟨s, i', h', e, r1, r2⟩ := ih y (n - 1) i3 w3 (by omega) (by omega) (by omega) q1 (by omega)
          exact ⟨s, i', h', e, by omega, r2⟩
        have fin : ∀ {s : ByteArray} {i' h' : Int}, Ev (fun k => spec_l13Bend.j1 k g x n true l i h) (s, i', h') → Ev (fun k => spec_l13Bend.l0 k g x n l i h) (s, i', h') := by
          intro s i' h' e
          refine ev_succ ?_
          simp only [spec_l13Bend.l0]
          refine ev_pos c ?_
          rw [decide_eq_true c2]
          exact e
        obtain h | h | h | h : a = 0 ∨ a = 1 ∨ a = 2 ∨ a = 3 := by omega
        all_goals subst h
        · obtain ⟨u, i3, w3, e3, u0, u1, j3⟩ := spec_l1Below_some l hl i2 w2 (g.size : Int) j2 (by omega)
          obtain ⟨s, i', h', e, r1, r2⟩ := key (x.set (v : Int).toNat (bt g u)) i3 w3 j3 (by rw [List.length_set]; omega)
          refine ⟨s, i', h', fin (ev_succ ?_), r1, r2⟩
          simp only [spec_l13Bend.j1, hw]
          exact ev_pos (by trivial) (ev_bind_of e1 (ev_bind_of e2 (ev_pos rfl (ev_bind_of e3 (ev_pos u0 (ev_pos (by omega) (ev_pos v0 (ev_pos (by omega) e))))))))
        · obtain ⟨s, i', h', e, r1, r2⟩ := key (x.take (v : Int).toNat) i2 w2 j2 (by rw [List.length_take]; omega)
          refine ⟨s, i', h', fin (ev_succ ?_), r1, r2⟩
          simp only [spec_l13Bend.j1, hw]
          exact ev_pos (by trivial) (ev_bind_of e1 (ev_bind_of e2 (ev_neg (by omega) (ev_pos rfl (ev_pos v0 (ev_pos (by omega) e))))))
        · obtain ⟨s, i', h', e, r1, r2⟩ := key ((([] : List Int) ++ x.take (v : Int).toNat) ++ x.drop ((wrap64 (v + 1)) : Int).toNat) i2 w2 j2 (by rw [hw2, List.length_append, List.nil_append, List.length_take, List.length_drop]; omega)
          refine ⟨s, i', h', fin (ev_succ ?_), r1, r2⟩
          simp only [spec_l13Bend.j1, hw]
          refine ev_pos (by trivial) (ev_bind_of e1 (ev_bind_of e2 (ev_neg (by omega) (ev_neg (by omega) (ev_pos rfl (ev_bind_some (ev_pos v0 (ev_pos (by omega) (ev_bind_some (ev_pos ?_ (ev_bind_some (ev_pos (show (0 : Int) ≤ wrap64 (v + 1) from by rw [hw2]; omega) (ev_pos (show wrap64 (v + 1) ≤ (x.length : Int) from by rw [hw2]; omega) (ev_bind_some (ev_pos ?_ e)))))))))))))))
          · rw [List.length_nil, List.length_take]; omega
          · show (([] : List Int) ++ x.take (v : Int).toNat).length + (x.drop (wrap64 (v + 1)).toNat).length < _
            rw [hw2, List.nil_append, List.length_take, List.length_drop]; omega
        · obtain ⟨u, i3, w3, e3, u0, u1, j3⟩ := spec_l1Below_some l hl i2 w2 (g.size : Int) j2 (by omega)
          obtain ⟨s, i', h', e, r1, r2⟩ := key (((([] : List Int) ++ x.take (v : Int).toNat) ++ [bt g u]) ++ x.drop (v : Int).toNat) i3 w3 j3 (by simp only [List.length_append, List.length_nil, List.length_take, List.length_drop, List.length_cons]; omega)
          refine ⟨s, i', h', fin (ev_succ ?_), r1, r2⟩
          simp only [spec_l13Bend.j1, hw]
          refine ev_pos (by trivial) (ev_bind_of e1 (ev_bind_of e2 (ev_neg (by omega) (ev_neg (by omega) (ev_neg (by omega) (ev_pos rfl (ev_bind_some (ev_pos v0 (ev_pos (by omega) (ev_bind_some (ev_pos ?_ (ev_bind_some (ev_bind_of e3 (ev_pos u0 (ev_pos (by omega) (ev_pos ?_ (ev_bind_some (ev_bind_some (ev_pos ?_ e)))))))))))))))))))
          · rw [List.length_nil, List.length_take]; omega
          · rw [List.nil_append, List.length_take]; omega
          · simp only [List.length_append, List.length_nil, List.length_take, List.length_drop, List.length_cons]; omega
      · refine ⟨strOfNums x, i, h, ev_succ ?_, by rw [strOfNums_size]; omega, hi⟩
        simp only [spec_l13Bend.l0]
        exact ev_pos c (stop _ (decide_eq_false c2))
    · refine ⟨strOfNums x, i, h, ev_succ ?_, by rw [strOfNums_size]; omega, hi⟩
      simp only [spec_l13Bend.l0]
      exact ev_neg c (stop _ rfl)
theorem spec_l13Bend_some (l : List Int) (hl : l.length < 4611686018427387904) (a g : ByteArray) (ha : a.size ≤ 900) (hg : 1 ≤ g.size ∧ g.size < 4611686018427387904) (i h : Int) (hi : 0 ≤ i) :
    ∃ s i' h', Ev (fun k => spec_l13Bend.f k l i h a g) (s, i', h') ∧ s.size ≤ a.size + 3 ∧ 0 ≤ i' := by
  obtain ⟨v, i1, w1, e1, v0, v1, j1⟩ := spec_l1Below_some l hl i h 3 hi (by omega)
  have hb : (bytesOf a).length = a.size := by rw [bytesOf_length]
  obtain ⟨s, i', h', e, r1, r2⟩ := bend_loop l hl g hg 3 (bytesOf a) v i1 w1 (by omega) (by omega) (by omega) j1 (by omega)
  refine ⟨s, i', h', ?_, by omega, r2⟩
  unfold spec_l13Bend.f
  refine ev_bind_of (a := bytesOf a) ?_ (ev_bind_of e1 e)
  unfold spec_bytesOf.f
  rw [if_pos (by omega)]

theorem spec_l13Draw_some (l : List Int) (hl : l.length < 4611686018427387904) (i h : Int) (hi : 0 ≤ i) : ∃ a b c i' h', Ev (fun k => spec_l13Draw.f k l i h) (a, b, c, i', h') ∧ 0 ≤ i' := by
  have tail : ∀ (x y : Int) (z : Bool) (i h : Int), 0 ≤ i → ∃ a b c i' h', Ev (fun k => spec_l13Draw.j0 k l i h x y z) (a, b, c, i', h') ∧ 0 ≤ i' := by
    intro x y z i h hi
    obtain ⟨o, i1, h1, e1, j1⟩ := spec_l1Once_some l hl i h 14 hi (by omega)
    cases o with
    | false =>
      refine ⟨x, y, z, i1, h1, ev_succ ?_, j1⟩
      simp only [spec_l13Draw.j0]
      exact ev_bind_of e1 (ev_neg (by simp) (Ev.now _))
    | true =>
      obtain ⟨v, i2, h2, e2, v0, v1, j2⟩ := spec_l1Below_some l hl i1 h1 3 j1 (by omega)
      by_cases q0 : v = 0
      · obtain ⟨w, i3, h3, e3, w0, w1, j3⟩ := spec_l1Below_some l hl i2 h2 4 j2 (by omega)
        refine ⟨rd [0, 13, (-1), 4611686018427387904] w, y, z, i3, h3, ev_succ ?_, j3⟩
        · simp only [spec_l13Draw.j0]
          exact ev_bind_of e1 (ev_pos rfl (ev_bind_of e2 (ev_pos q0 (ev_bind_some (ev_bind_of e3 (ev_pos w0 (ev_pos (by simp only [List.length_cons, List.length_nil]; omega) (Ev.now _))))))))
      · by_cases q1 : v = 1
        · obtain ⟨w, i3, h3, e3, w0, w1, j3⟩ := spec_l1Below_some l hl i2 h2 6 j2 (by omega)
          refine ⟨x, rd [(-1), 0, 9, 27, 127, 55296] w, z, i3, h3, ev_succ ?_, j3⟩
          · simp only [spec_l13Draw.j0]
            exact ev_bind_of e1 (ev_pos rfl (ev_bind_of e2 (ev_neg q0 (ev_pos q1 (ev_bind_some (ev_bind_of e3 (ev_pos w0 (ev_pos (by simp only [List.length_cons, List.length_nil]; omega) (Ev.now _)))))))))
        · by_cases q2 : v = 2
          · refine ⟨x, y, !z, i2, h2, ev_succ ?_, j2⟩
            simp only [spec_l13Draw.j0]
            exact ev_bind_of e1 (ev_pos rfl (ev_bind_of e2 (ev_neg q0 (ev_neg q1 (ev_pos q2 (Ev.now _))))))
          · refine ⟨x, y, z, i2, h2, ev_succ ?_, j2⟩
            simp only [spec_l13Draw.j0]
            exact ev_bind_of e1 (ev_pos rfl (ev_bind_of e2 (ev_neg q0 (ev_neg q1 (ev_neg q2 (Ev.now _))))))
  obtain ⟨v, i1, h1, e1, v0, v1, j1⟩ := spec_l1Below_some l hl i h 12 hi (by omega)
  unfold spec_l13Draw.f
  by_cases q1 : wrap64 (1 + v) = 1
  · obtain ⟨w, i2, h2, e2, w0, w1, j2⟩ := spec_l1Below_some l hl i1 h1 8 j1 (by omega)
    obtain ⟨o, i3, h3, e3, j3⟩ := spec_l1Once_some l hl i2 h2 3 j2 (by omega)
    cases o with
    | true =>
      obtain ⟨a, b, c, i', h', e, j⟩ := tail (wrap64 (1 + v)) (rd [97, 32, 233, 19968, 126, 91, 65, 51] w) (rd [97, 32, 233, 19968, 126, 91, 65, 51] w != 91) i3 h3 j3
      exact ⟨a, b, c, i', h', ev_bind_of e1 (ev_pos q1 (ev_bind_some (ev_bind_of e2 (ev_pos w0 (ev_pos (by simp only [List.length_cons, List.length_nil]; omega) (ev_bind_of e3 (ev_pos rfl e))))))), j⟩
    | false =>
      obtain ⟨a, b, c, i', h', e, j⟩ := tail (wrap64 (1 + v)) (rd [97, 32, 233, 19968, 126, 91, 65, 51] w) false i3 h3 j3
      exact ⟨a, b, c, i', h', ev_bind_of e1 (ev_pos q1 (ev_bind_some (ev_bind_of e2 (ev_pos w0 (ev_pos (by simp only [List.length_cons, List.length_nil]; omega) (ev_bind_of e3 (ev_neg (by simp) e))))))), j⟩
  · by_cases q2 : wrap64 (1 + v) = 2
    · obtain ⟨w, i2, h2, e2, w0, w1, j2⟩ := spec_l1Below_some l hl i1 h1 6 j1 (by omega)
      obtain ⟨a, b, c, i', h', e, j⟩ := tail (wrap64 (1 + v)) (rd [1, 3, 4, 26, 8, 10] w) false i2 h2 j2
      exact ⟨a, b, c, i', h', ev_bind_of e1 (ev_neg q1 (ev_pos q2 (ev_bind_some (ev_bind_of e2 (ev_pos w0 (ev_pos (by simp only [List.length_cons, List.length_nil]; omega) e)))))), j⟩
    · obtain ⟨a, b, c, i', h', e, j⟩ := tail (wrap64 (1 + v)) 0 false i1 h1 j1
      exact ⟨a, b, c, i', h', ev_bind_of e1 (ev_neg q1 (ev_neg q2 e)), j⟩
theorem spec_Sent_ev (a b : Int) (c : Bool) : Ev (fun k => spec_Sent.f k a b c) (sndv a b c) := by
  obtain ⟨v, h1, h2⟩ := Sent_same a b c
  exact ev_eq h1 (ev_unique h2 (impl_Sent_ev a b c))
theorem spec_KeyOk_eq (a b : Int) (c : Bool) : spec_KeyOk.f a b c = some (kokv a b c) := by
  obtain ⟨v, h1, h2, _⟩ := keyOk_tells a b c
  rw [impl_KeyOk_eq] at h2
  rw [h1, ← h2]
theorem draw_loop (l : List Int) (hl : l.length < 4611686018427387904) : ∀ (d : Nat) (x : ByteArray) (n i h : Int), n ≤ d → -1000 ≤ n → n ≤ 1000 → 0 ≤ i → x.size + 5 * d ≤ 800 →
    ∃ s, Ev (fun k => spec_DrawPressed.l0 k x n l i h) s ∧ s.size ≤ x.size + 5 * d + 3 := by
  have stop : ∀ (x : ByteArray) (n i h : Int), ¬ n > 0 → 0 ≤ i → x.size ≤ 800 → ∃ s, Ev (fun k => spec_DrawPressed.l0 k x n l i h) s ∧ s.size ≤ x.size + 3 := by
    intro x n i h hn hi hx
    obtain ⟨o, i1, h1, e1, j1⟩ := spec_l1Once_some l hl i h 3 hi (by omega)
    cases o with
    | false =>
      refine ⟨x, ev_succ ?_, by omega⟩
      simp only [spec_DrawPressed.l0]
      exact ev_neg hn (ev_bind_of e1 (ev_neg (by simp) (Ev.now _)))
    | true =>
      obtain ⟨s, i2, h2, e2, hs, j2⟩ := spec_l13Bend_some l hl x (⟨#[27, 91, 51, 126, 65, 0, 195]⟩ : ByteArray) (by omega) (by decide) i1 h1 j1
      refine ⟨s, ev_succ ?_, hs⟩
      simp only [spec_DrawPressed.l0]
      exact ev_neg hn (ev_bind_of e1 (ev_pos rfl (Ev.bind e2 (Ev.now _))))
  intro d
  induction d with
  | zero =>
    intro x n i h hn _ _ hi hx
    obtain ⟨s, e, hs⟩ := stop x n i h (by omega) hi (by omega)
    exact ⟨s, e, by omega⟩
  | succ d ih =>
    intro x n i h hn h1 h2 hi hx
    by_cases c : n > 0
    · obtain ⟨a, b, q, i1, w1, e1, j1⟩ := spec_l13Draw_some l hl i h hi
      have hz := (sndv_size a b q).1
      have hw : wrap64 (n - 1) = n - 1 := w64 (by omega) (by omega)
      obtain ⟨s, e, hs⟩ := ih (x ++ sndv a b q) (n - 1) i1 w1 (by omega) (by omega) (by omega) j1 (by rw [ByteArray.size_append]; omega)
      rw [ByteArray.size_append] at hs
      refine ⟨s, ev_succ ?_, by omega⟩
      simp only [spec_DrawPressed.l0, hw]
      exact ev_pos c (Ev.bind e1 (Ev.bind (spec_Sent_ev a b q) (ev_pos (by omega) e)))
    · obtain ⟨s, e, hs⟩ := stop x n i h c hi (by omega)
      exact ⟨s, e, by omega⟩
theorem spec_DrawPressed_some (l : List Int) (hl : l.length < 4611686018427387904) : ∃ s, Ev (fun k => spec_DrawPressed.f k l) s ∧ s.size ≤ 800 := by
  obtain ⟨h, e0⟩ := spec_l1New_some l hl
  obtain ⟨v, i1, h1, e1, v0, v1, j1⟩ := spec_l1Below_some l hl 0 h 6 (by omega) (by omega)
  obtain ⟨s, e2, hs⟩ := draw_loop l hl 6 (⟨#[]⟩ : ByteArray) v i1 h1 (by omega) (by omega) (by omega) j1 (by decide)
  have hz : (⟨#[]⟩ : ByteArray).size = 0 := rfl
  unfold spec_DrawPressed.f
  exact ⟨s, Ev.bind e0 (ev_bind_of e1 e2), by omega⟩
def catk (l : List S50) : ByteArray := l.foldr (fun k u => sndv k.f0 k.f1 k.f2 ++ u) ⟨#[]⟩
theorem catk_nil : catk [] = ⟨#[]⟩ := rfl
theorem catk_cons (k : S50) (l : List S50) : catk (k :: l) = sndv k.f0 k.f1 k.f2 ++ catk l := rfl
theorem nil_cat (u : ByteArray) : (⟨#[]⟩ : ByteArray) ++ u = u := ByteArray.empty_append
theorem cat_nil (u : ByteArray) : u ++ (⟨#[]⟩ : ByteArray) = u := ByteArray.append_empty
theorem catk_append (l m : List S50) : catk (l ++ m) = catk l ++ catk m := by
  induction l with
  | nil => rw [List.nil_append, catk_nil, nil_cat]
  | cons k l ih => rw [List.cons_append, catk_cons, catk_cons, ih, ByteArray.append_assoc]
theorem catk_size (l : List S50) : (catk l).size ≤ 5 * l.length := by
  induction l with
  | nil => exact Nat.zero_le _
  | cons k l ih =>
    have := (sndv_size k.f0 k.f1 k.f2).1
    rw [catk_cons, ByteArray.size_append, List.length_cons]
    omega
theorem drop_snd (t u : ByteArray) : (t ++ u).extract t.size (t ++ u).size = u := by
  have h := pre_parts (pre_cat t u)
  rw [ByteArray.extract_append, Nat.sub_self, ByteArray.size_append, show t.size + u.size - t.size = u.size by omega, ext_all]
  have e1 : t.extract t.size (t.size + u.size) = (⟨#[]⟩ : ByteArray) := by
    apply ByteArray.ext
    apply Array.eq_empty_of_size_eq_zero
    have : (t.extract t.size (t.size + u.size)).size = 0 := by rw [ByteArray.size_extract]; omega
    exact this
  rw [e1, nil_cat]
theorem prv_empty : prv (⟨#[]⟩ : ByteArray) = (0, 0, false, false) := by
  rcases prv_sound (⟨#[]⟩ : ByteArray) with h | ⟨a, b, c, _, h, hp⟩
  · exact h
  · have h1 := ((pre_iff _ _).mp hp).1
    have h2 := (sndv_size a b c).2.mpr h
    have h3 : (⟨#[]⟩ : ByteArray).size = 0 := rfl
    omega
/-- What a text is told to. -/
theorem pressed_tells : ∀ (f : Nat) (s : ByteArray), s.size ≤ f → s.size ≤ 100000 → ∃ (l : List S50) (t : ByteArray), l.length ≤ s.size ∧ (∀ k ∈ l, kokv k.f0 k.f1 k.f2 = true) ∧ s = catk l ++ t ∧ ∀ o : List S50, o.length + s.size < 100000000 → Ev (fun k => impl_Pressed.l0 k s o) (o ++ l, t) := by
  intro f
  induction f with
  | zero =>
    intro s hf hb
    refine ⟨[], s, Nat.zero_le _, by simp, by rw [catk_nil, nil_cat], fun o ho => ev_succ ?_⟩
    simp only [impl_Pressed.l0]
    have he : s = ⟨#[]⟩ := by
      apply ByteArray.ext
      apply Array.eq_empty_of_size_eq_zero
      exact Nat.le_zero.mp hf
    have hv := impl_pressed_ev s
    rw [he, prv_empty] at hv
    rw [he, List.append_nil]
    exact Ev.bind hv (ev_neg (by simp) (Ev.now _))
  | succ f ih =>
    intro s hf hb
    have hv := impl_pressed_ev s
    rcases prv_sound s with h | ⟨a, b, c, h, hk, hp⟩
    · rw [h] at hv
      refine ⟨[], s, Nat.zero_le _, by simp, by rw [catk_nil, nil_cat], fun o ho => ev_succ ?_⟩
      simp only [impl_Pressed.l0]
      rw [List.append_nil]
      exact Ev.bind hv (ev_neg (by simp) (Ev.now _))
    · rw [h] at hv
      have hz := sndv_size a b c
      have hz0 := hz.2.mpr hk
      have h1 := ((pre_iff _ _).mp hp).1
      have hpp := pre_parts hp
      have hes : (s.extract (sndv a b c).size s.size).size = s.size - (sndv a b c).size := ext_size s _
      obtain ⟨l, t, l1, l2, l3, l4⟩ := ih (s.extract (sndv a b c).size s.size) (by omega) (by omega)
      refine ⟨⟨a, b, c⟩ :: l, t, by rw [List.length_cons]; omega, ?_, ?_, fun o ho => ev_succ ?_⟩
      · intro k hkm
        rcases List.mem_cons.mp hkm with e | e
        · rw [e]; exact hk
        · exact l2 k e
      · rw [catk_cons, ByteArray.append_assoc, ← l3]; exact hpp
      · simp only [impl_Pressed.l0, Int.toNat_natCast]
        refine Ev.bind hv (ev_pos rfl (ev_pos (by omega) (Ev.bind (impl_Sent_ev a b c) (ev_pos (by omega) (ev_pos (by omega) ?_)))))
        have := l4 (o ++ [⟨a, b, c⟩]) (by rw [List.length_append, List.length_singleton]; omega)
        rw [List.append_assoc] at this
        exact this
/-- What right keys send is told as those keys. -/
theorem pressed_cat : ∀ (l : List S50), (∀ k ∈ l, kokv k.f0 k.f1 k.f2 = true) → ∀ o : List S50, o.length + l.length < 100000000 → Ev (fun k => impl_Pressed.l0 k (catk l) o) (o ++ l, (⟨#[]⟩ : ByteArray)) := by
  intro l
  induction l with
  | nil =>
    intro _ o ho
    refine ev_succ ?_
    simp only [impl_Pressed.l0]
    have hv := impl_pressed_ev (⟨#[]⟩ : ByteArray)
    rw [prv_empty] at hv
    rw [List.append_nil, catk_nil]
    exact Ev.bind hv (ev_neg (by simp) (Ev.now _))
  | cons k l ih =>
    intro hk o ho
    rw [List.length_cons] at ho
    have hk0 := hk k (List.mem_cons_self ..)
    have hv := impl_pressed_ev (sndv k.f0 k.f1 k.f2 ++ catk l)
    rw [prv_snd _ _ _ _ hk0] at hv
    have hd := drop_snd (sndv k.f0 k.f1 k.f2) (catk l)
    refine ev_succ ?_
    simp only [impl_Pressed.l0, Int.toNat_natCast, catk_cons]
    refine Ev.bind hv (ev_pos rfl (ev_pos (by omega) (Ev.bind (impl_Sent_ev _ _ _) (ev_pos (by omega) (ev_pos (show ((sndv k.f0 k.f1 k.f2).size : Int) ≤ ((sndv k.f0 k.f1 k.f2 ++ catk l).size : Int) from by rw [ByteArray.size_append]; omega) ?_)))))
    simp only [hd]
    have := ih (fun x hx => hk x (List.mem_cons_of_mem _ hx)) (o ++ [⟨k.f0, k.f1, k.f2⟩]) (by rw [List.length_append, List.length_singleton]; omega)
    rw [List.append_assoc] at this
    exact this
theorem laws_likeKeys_self (l : List S50) (hl : l.length < 4611686018427387904) : Ev (fun k => laws_likeKeys.f k l l) true := by
  have go : ∀ (d i : Nat), i + d = l.length → Ev (fun k => laws_likeKeys.l0 k l l (i : Int)) true := by
    intro d
    induction d with
    | zero =>
      intro i h
      refine ev_succ ?_
      simp only [laws_likeKeys.l0]
      exact ev_neg (by omega) (Ev.now _)
    | succ d ih =>
      intro i h
      refine ev_succ ?_
      simp only [laws_likeKeys.l0, w64 (x := (i : Int) + 1) (by omega) (by omega)]
      exact ev_pos (by omega) (ev_pos (by omega) (ev_pos (by omega) (ev_neg (by simp) (ih (i + 1) (by omega)))))
  unfold laws_likeKeys.f
  exact ev_pos (by trivial) (go l.length 0 (by omega))
theorem snd_test (a b : Int) (c : Bool) : ((sndv a b c).toList != ([] : List UInt8)) = kokv a b c := by
  have h := (sndv_size a b c).2
  have hn := str_nil (sndv a b c)
  cases hk : kokv a b c with
  | true => exact bne_iff_ne.mpr (fun e => by rw [hk] at h; exact h.mpr rfl (hn.mp e))
  | false => exact bne_eq_false_iff_eq.mpr (hn.mpr (Classical.byContradiction fun e => by have := h.mp e; rw [hk] at this; cases this))
theorem pressed_end (a b : Int) (c : Bool) (l : List S50) (t : ByteArray) (hl : l.length ≤ 800) (ht : t.size ≤ 800) (hk : ∀ k ∈ l, kokv k.f0 k.f1 k.f2 = true) :
    Ev (fun k => laws_FnPressed.l0 k (sndv a b c) (catk l ++ t) l t (catk l) (l.length : Int) a b c) true := by
  have hc := catk_size l
  have hz := sndv_size a b c
  refine ev_succ ?_
  simp only [laws_FnPressed.l0]
  refine ev_neg (by omega) (ev_pos (by omega) (ev_pos (by trivial) ?_))
  by_cases h : kokv a b c = true
  · have hz0 := hz.2.mpr h
    have hp := pressed_cat (⟨a, b, c⟩ :: ⟨a, b, c⟩ :: l) (by
      intro k hkm
      rcases List.mem_cons.mp hkm with e | e
      · rw [e]; exact h
      · rcases List.mem_cons.mp e with e | e
        · rw [e]; exact h
        · exact hk k e) [] (by simp only [List.length_cons, List.length_nil]; omega)
    rw [catk_cons, catk_cons, ← ByteArray.append_assoc, List.nil_append] at hp
    refine ev_neg (fun e => hz0 ((str_nil _).mp e)) (ev_pos (by omega) (ev_pos (by rw [ByteArray.size_append]; omega) (Ev.bind (show Ev (fun k => impl_Pressed.f k ((sndv a b c ++ sndv a b c) ++ catk l)) _ from hp) ?_)))
    have hw : wrap64 ((l.length : Int) + 2) = (l.length : Int) + 2 := w64 (by omega) (by omega)
    have r0 : rd_T50 ((⟨a, b, c⟩ : S50) :: ⟨a, b, c⟩ :: l) 0 = ⟨a, b, c⟩ := rdk (l := (⟨a, b, c⟩ : S50) :: ⟨a, b, c⟩ :: l) (i := 0) (by simp)
    have r1 : rd_T50 ((⟨a, b, c⟩ : S50) :: ⟨a, b, c⟩ :: l) 1 = ⟨a, b, c⟩ := rdk (l := (⟨a, b, c⟩ : S50) :: ⟨a, b, c⟩ :: l) (i := 1) (by simp)
    have n1 : (((⟨a, b, c⟩ : S50) :: ⟨a, b, c⟩ :: l).length : Int) = (l.length : Int) + 2 := by simp only [List.length_cons]; omega
    simp only [r0, r1, n1, hw]
    refine ev_pos ((str_nil _).mpr rfl) (ev_pos (by trivial) (ev_pos (by omega) (ev_pos (by simp) (ev_pos (by omega) (ev_pos (by simp) (ev_pos (by omega) (Ev.bind (laws_likeKeys_self l (by omega)) (Ev.now _))))))))
  · refine ev_pos ((str_nil _).mpr (Classical.byContradiction fun e => h (hz.2.mp e))) (Ev.now _)
theorem pressed_loop (a b : Int) (c : Bool) (l : List S50) (t : ByteArray) (hl : l.length ≤ 800) (ht : t.size ≤ 800) (hk : ∀ k ∈ l, kokv k.f0 k.f1 k.f2 = true) : ∀ (d j : Nat), j + d = l.length →
    Ev (fun k => laws_FnPressed.l0 k (sndv a b c) (catk l ++ t) l t (catk (l.take j)) (j : Int) a b c) true := by
  intro d
  induction d with
  | zero =>
    intro j h
    have : j = l.length := by omega
    subst this
    rw [List.take_length]
    exact pressed_end a b c l t hl ht hk
  | succ d ih =>
    intro j h
    have hj : j < l.length := by omega
    have hn : wrap64 ((j : Int) + 1) = ((j + 1 : Nat) : Int) := by rw [w64 (by omega) (by omega)]; omega
    have hc := catk_size (l.take j)
    have hlt : (l.take j).length ≤ l.length := by rw [List.length_take]; omega
    have hz := (sndv_size l[j].f0 l[j].f1 l[j].f2).1
    have hcat : catk (l.take j) ++ sndv l[j].f0 l[j].f1 l[j].f2 = catk (l.take (j + 1)) := by
      rw [List.take_succ_eq_append_getElem hj, catk_append, catk_cons, catk_nil, cat_nil]
    refine ev_succ ?_
    simp only [laws_FnPressed.l0, hn, rdk hj]
    refine ev_pos (by omega) (ev_pos (by omega) (ev_bind_of (impl_KeyOk_eq _ _ _) (ev_pos (hk _ (List.getElem_mem hj)) (Ev.bind (impl_Sent_ev _ _ _) (ev_pos (by omega) ?_)))))
    rw [hcat]
    exact ih (j + 1) (by omega)
theorem FnPressed : laws_FnPressed.Pure := by
  intro l _ hl _
  refine Ev.rounds ?_
  have hlen : l.length < 4611686018427387904 := by omega
  unfold laws_FnPressed.f
  by_cases hb : laws_big.f l = some true
  · exact ev_bind_of hb (ev_pos rfl (Ev.now _))
  obtain ⟨b, hb'⟩ : ∃ b, laws_big.f l = some b := by unfold laws_big.f; exact ⟨_, rfl⟩
  have : b = false := by cases b with | true => exact absurd hb' hb | false => rfl
  subst this
  refine ev_bind_of hb' (ev_neg (by simp) ?_)
  obtain ⟨h0, e0⟩ := spec_l1New_some l hlen
  obtain ⟨x, y, z, i', h', ek, _⟩ := spec_l13Draw_some l hlen 0 h0 (by omega)
  have eko : Ev (fun k => spec_DrawSent.f k l) (x, y, z) := by
    unfold spec_DrawSent.f spec_DrawKeyOk.f
    exact Ev.bind (Ev.bind e0 (Ev.bind ek (Ev.now _))) (Ev.now _)
  obtain ⟨t, et, ht⟩ := spec_DrawPressed_some l hlen
  obtain ⟨m, u, m1, m2, m3, m4⟩ := pressed_tells t.size t (Nat.le_refl _) (by omega)
  have ei : Ev (fun k => impl_Pressed.f k t) (m, u) := m4 [] (by simp only [List.length_nil]; omega)
  have es : Ev (fun k => spec_Pressed.f k t) (m, u) := by
    obtain ⟨m', u', _, e1, e2⟩ := pressed_same t.size t [] (Nat.le_refl _) (by simp only [List.length_nil]; omega)
    have : (m', u') = (m, u) := ev_unique e2 ei
    rw [← this]
    exact e1
  have hu : u.size ≤ 800 := by
    have : t.size = (catk m).size + u.size := by rw [← ByteArray.size_append, ← m3]
    omega
  refine Ev.bind eko (Ev.bind (impl_Sent_ev x y z) (Ev.bind et (Ev.bind ei (Ev.bind es (Ev.bind (laws_likeKeys_self m (by omega)) (ev_pos rfl (ev_pos rfl (Ev.bind (spec_Sent_ev x y z) (ev_pos rfl (ev_bind_of (impl_KeyOk_eq x y z) (ev_bind_of (spec_KeyOk_eq x y z) (ev_neg (by simp) (ev_bind_of (impl_KeyOk_eq x y z) ?_)))))))))))))
  rw [snd_test, bne_self_eq_false]
  refine ev_succ ?_
  simp only [laws_FnPressed.j0]
  refine ev_neg (by simp) ?_
  have := pressed_loop x y z m u (by omega) hu m2 m.length 0 (by omega)
  rw [List.take_zero, catk_nil, ← m3] at this
  exact this

end Go.Proofs.YtfhkpneffmcdbaaDoor.Pure
