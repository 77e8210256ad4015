/- The law FnExactPressed answers true at every text. -/
import Derived.Test.YtkljnfinjacejaaDoorPCx13
namespace Go.Proofs.YtkljnfinjacejaaDoor.Pure
open Go.RowKit Go.Proofs.YtkljnfinjacejaaDoor.PC Go.Proofs.YtkljnfinjacejaaDoorW.PrintWords Go.Proofs.YtkljnfinjacejaaDoorW.PrintLast
set_option linter.unusedVariables false
set_option linter.unusedSimpArgs false

theorem w64 {x : Int} (h0 : -9223372036854775808 ≤ x) (h1 : x ≤ 9223372036854775807) : wrap64 x = x := by unfold wrap64; omega
theorem wf64 {x : Int} : (Lit.int .i64 x).wf = true ↔ -9223372036854775808 ≤ x ∧ x ≤ 9223372036854775807 := by
  simp [Lit.wf, IntKind.min, IntKind.max, IntKind.signed, IntKind.bits]
theorem wf8 {x : Int} : (Lit.int .u8 x).wf = true ↔ 0 ≤ x ∧ x ≤ 255 := by
  simp [Lit.wf, IntKind.min, IntKind.max, IntKind.signed, IntKind.bits]
theorem ev_succ {α : Type} {g : Nat → Option α} {r : α} (h : Ev (fun k => g (k + 1)) r) : Ev g r := by
  obtain ⟨K, h⟩ := h
  refine ⟨K + 1, fun k hk => ?_⟩
  obtain ⟨m, rfl⟩ : ∃ m, k = m + 1 := ⟨k - 1, by omega⟩
  exact h m (by omega)
theorem ev_fixed {α : Type} {x : Option α} {r : α} (h : x = some r) : Ev (fun _ => x) r := ⟨0, fun _ _ => h⟩
theorem ev_eq {α : Type} {g : Nat → Option α} {r s : α} (h : Ev g r) (e : r = s) : Ev g s := e ▸ h
theorem bt0 (s : ByteArray) (i : Int) : 0 ≤ bt s i := (bt_range s i).1
theorem bt255 (s : ByteArray) (i : Int) : bt s i ≤ 255 := (bt_range s i).2
/-- Never keep an equation 'wrap64 .. = ..' in the context where omega runs: it compares them by unfolding. -/
theorem wN {x : Int} {n : Nat} (e : x = (n : Int)) (h : n < 4611686018427387904) : wrap64 x = (n : Int) := by rw [e]; exact w64 (by omega) (by omega)

def rok (r : Int) : Bool := decide (0 ≤ r) && decide (r ≤ 1114111) && !(decide (55296 ≤ r) && decide (r ≤ 57343))
theorem rok_iff {r : Int} : rok r = true ↔ 0 ≤ r ∧ r ≤ 1114111 ∧ ¬ (55296 ≤ r ∧ r ≤ 57343) := by
  simp [rok]; omega

def enc (r : Int) : List Int :=
  if r < 128 then [r] else if r < 2048 then [192 + r / 64, 128 + r % 64]
  else if r < 65536 then [224 + r / 4096, 128 + r / 64 % 64, 128 + r % 64]
  else [240 + r / 262144, 128 + r / 4096 % 64, 128 + r / 64 % 64, 128 + r % 64]
theorem enc_length (r : Int) : (enc r).length ≤ 4 := by
  unfold enc
  repeat' split
  all_goals simp
theorem enc_pos (r : Int) : 0 < (enc r).length := by
  unfold enc
  repeat' split
  all_goals simp
theorem enc_byte {r : Int} (h : rok r = true) : ∀ x ∈ enc r, 0 ≤ x ∧ x ≤ 255 := by
  rw [rok_iff] at h
  unfold enc
  repeat' split
  all_goals (intro x hx; simp only [List.mem_cons, List.not_mem_nil, or_false] at hx; omega)

theorem spec_l1In_eq (a b c : Int) : spec_l1In.f a b c = some (decide (b ≤ a) && decide (a ≤ c)) := by
  unfold spec_l1In.f
  by_cases h : a ≥ b
  · rw [if_pos h]; simp [h]
  · rw [if_neg h]; simp [show ¬ b ≤ a from h]

theorem spec_RuneOk_eq (r : Int) : spec_RuneOk.f r = some (rok r) := by
  simp only [spec_RuneOk.f, spec_l1In_eq, Option.bind_some, rok]
  by_cases h : (decide (0 ≤ r) && decide (r ≤ 1114111)) = true
  · rw [if_pos h, h, Bool.true_and]
  · rw [if_neg h, Bool.eq_false_iff.mpr h, Bool.false_and]

theorem spec_l1Put_eq {r : Int} (h : rok r = true) : spec_l1Put.f r = some (enc r) := by
  rw [rok_iff] at h
  have t64 : Int.tdiv r 64 = r / 64 := Int.tdiv_eq_ediv_of_nonneg h.1
  have t4096 : Int.tdiv r 4096 = r / 4096 := Int.tdiv_eq_ediv_of_nonneg h.1
  have t262144 : Int.tdiv r 262144 = r / 262144 := Int.tdiv_eq_ediv_of_nonneg h.1
  have m64 : Int.tmod r 64 = r % 64 := Int.tmod_eq_emod_of_nonneg h.1
  have w1 : wrap64 (r / 64) = r / 64 := w64 (by omega) (by omega)
  have w2 : wrap64 (r / 4096) = r / 4096 := w64 (by omega) (by omega)
  have w3 : wrap64 (r / 262144) = r / 262144 := w64 (by omega) (by omega)
  have m1 : Int.tmod (r / 64) 64 = r / 64 % 64 := Int.tmod_eq_emod_of_nonneg (by omega)
  have m2 : Int.tmod (r / 4096) 64 = r / 4096 % 64 := Int.tmod_eq_emod_of_nonneg (by omega)
  unfold spec_l1Put.f enc
  simp only [t64, t4096, t262144, m64, w1, w2, w3, m1, m2]
  repeat' split
  · rw [show r % 256 = r by omega]
  · rw [w64 (by omega) (by omega), w64 (by omega) (by omega), show (192 + r / 64) % 256 = 192 + r / 64 by omega, show (128 + r % 64) % 256 = 128 + r % 64 by omega]
  · rw [w64 (x := 224 + r / 4096) (by omega) (by omega), w64 (x := 128 + r / 64 % 64) (by omega) (by omega), w64 (x := 128 + r % 64) (by omega) (by omega), show (224 + r / 4096) % 256 = 224 + r / 4096 by omega,
      show (128 + r / 64 % 64) % 256 = 128 + r / 64 % 64 by omega, show (128 + r % 64) % 256 = 128 + r % 64 by omega]
  · rw [w64 (x := 240 + r / 262144) (by omega) (by omega), w64 (x := 128 + r / 4096 % 64) (by omega) (by omega), w64 (x := 128 + r / 64 % 64) (by omega) (by omega), w64 (x := 128 + r % 64) (by omega) (by omega), show (240 + r / 262144) % 256 = 240 + r / 262144 by omega,
      show (128 + r / 4096 % 64) % 256 = 128 + r / 4096 % 64 by omega, show (128 + r / 64 % 64) % 256 = 128 + r / 64 % 64 by omega, show (128 + r % 64) % 256 = 128 + r % 64 by omega]

def putv (r : Int) : ByteArray := if rok r then strOfNums (enc r) else ⟨#[]⟩
theorem spec_Put_eq (r : Int) : spec_Put.f r = some (putv r) := by
  unfold spec_Put.f putv
  rw [spec_RuneOk_eq]
  simp only [Option.bind_some]
  split
  · rename_i h; rw [spec_l1Put_eq h]; rfl
  · rfl

theorem impl_in_eq (a b c : Int) : impl_in.f a b c = some (decide (b ≤ a) && decide (a ≤ c)) := by
  unfold impl_in.f
  by_cases h : b ≤ a
  · rw [if_pos h]; simp [h]
  · rw [if_neg h]; simp [h]

theorem impl_RuneOk_eq (r : Int) : impl_RuneOk.f r = some (rok r) := by
  simp only [impl_RuneOk.f, impl_in_eq, Option.bind_some, rok]
  by_cases h : (decide (0 ≤ r) && decide (r ≤ 1114111)) = true
  · rw [if_pos h, h, Bool.true_and]
  · rw [if_neg h, Bool.eq_false_iff.mpr h, Bool.false_and]

theorem utf8_AppendRune_ev {r : Int} (h : rok r = true) (l : List Int) (hl : l.length < 140737488355300) : Ev (fun k => utf8_AppendRune.f k l r) (l ++ enc r) := by
  rw [rok_iff] at h
  have e0 : r % 4294967296 = r := by omega
  have a1 : Go.bits .and .u8 (r % 256) 63 = r % 64 := by rw [u8_and63 _ (by omega) (by omega)]; omega
  have a2 : Go.bits .and .u8 ((r / 64) % 256) 63 = r / 64 % 64 := by rw [u8_and63 _ (by omega) (by omega)]; omega
  have a3 : Go.bits .and .u8 ((r / 4096) % 256) 63 = r / 4096 % 64 := by rw [u8_and63 _ (by omega) (by omega)]; omega
  have o1 : Go.bits .or .u8 128 (r % 64) = 128 + r % 64 := u8_or128 _ (by omega) (by omega)
  have o2 : Go.bits .or .u8 128 (r / 64 % 64) = 128 + r / 64 % 64 := u8_or128 _ (by omega) (by omega)
  have o3 : Go.bits .or .u8 128 (r / 4096 % 64) = 128 + r / 4096 % 64 := u8_or128 _ (by omega) (by omega)
  simp only [utf8_AppendRune.f, utf8_appendRuneNonASCII.f, e0, a1, o1]
  unfold enc
  by_cases h1 : r < 128
  · simp only [if_pos (show r ≤ 127 by omega), if_pos h1, if_pos (show l.length < 140737488355328 by omega), show r % 256 = r by omega]
    exact Ev.now _
  · simp only [if_neg (show ¬ r ≤ 127 by omega), if_neg h1]
    by_cases h2 : r < 2048
    · have o : Go.bits .or .u8 192 (r / 64 % 256) = 192 + r / 64 := by rw [show r / 64 % 256 = r / 64 by omega]; exact u8_or192 _ (by omega) (by omega)
      simp only [if_pos (show r ≤ 2047 by omega), if_pos h2, Option.bind_some, o]
      exact ev_fixed (by rw [if_pos (by simp; omega)]; rfl)
    · simp only [if_neg (show ¬ r ≤ 2047 by omega), if_neg h2]
      have j1 : r < 65536 → Ev (fun k => utf8_appendRuneNonASCII.j0 k l r r true) (l ++ [224 + r / 4096, 128 + r / 64 % 64, 128 + r % 64]) := fun h3 => by
        have o : Go.bits .or .u8 224 (r / 4096 % 256) = 224 + r / 4096 := by rw [show r / 4096 % 256 = r / 4096 by omega]; exact u8_or224 _ (by omega) (by omega)
        refine ev_succ ?_
        simp only [utf8_appendRuneNonASCII.j0, if_true, Option.bind_some, o, a1, a2, o1, o2]
        exact ev_fixed (by rw [if_pos (by simp; omega)])
      have j0 : ¬ r < 65536 → Ev (fun k => utf8_appendRuneNonASCII.j0 k l r r false) (l ++ [240 + r / 262144, 128 + r / 4096 % 64, 128 + r / 64 % 64, 128 + r % 64]) := fun h3 => by
        have o : Go.bits .or .u8 240 (r / 262144 % 256) = 240 + r / 262144 := by rw [show r / 262144 % 256 = r / 262144 by omega]; exact u8_or240 _ (by omega) (by omega)
        refine ev_succ ?_
        simp only [utf8_appendRuneNonASCII.j0, Bool.false_eq_true, if_false, Option.bind_some, o, a1, a2, a3, o1, o2, o3, if_pos (show r > 65535 by omega), if_pos (show r ≤ 1114111 by omega)]
        exact ev_fixed (by rw [if_pos (by simp; omega)])
      by_cases h3 : r < 65536
      · simp only [if_pos h3]
        by_cases h4 : r < 55296
        · simp only [if_pos h4, decide_eq_true h4]
          exact (Ev.bind (j1 h3) (Ev.now _))
        · simp only [if_neg h4, if_pos (show 57343 < r by omega), decide_eq_true (show r ≤ 65535 by omega)]
          exact (Ev.bind (j1 h3) (Ev.now _))
      · simp only [if_neg h3, if_neg (show ¬ r < 55296 by omega), if_pos (show 57343 < r by omega), decide_eq_false (show ¬ r ≤ 65535 by omega)]
        exact (Ev.bind (j0 h3) (Ev.now _))

theorem w32 {x : Int} (h0 : -2147483648 ≤ x) (h1 : x ≤ 2147483647) : wrap32 x = x := by unfold wrap32; omega

theorem impl_Put_ev (r : Int) : Ev (fun k => impl_Put.f k r) (putv r) := by
  simp only [impl_Put.f, impl_RuneOk_eq, Option.bind_some]
  unfold putv
  by_cases h : rok r = true
  · have h' := rok_iff.mp h
    simp only [if_pos h, w32 (x := r) (by omega) (by omega)]
    exact Ev.bind (utf8_AppendRune_ev h [] (by simp)) (Ev.now _)
  · simp only [if_neg h]
    exact Ev.now _

theorem ev_pos {α : Type} {c : Prop} [Decidable c] {a b : Nat → Option α} {r : α} (hc : c) (h : Ev a r) : Ev (fun k => if c then a k else b k) r := by
  obtain ⟨K, h⟩ := h
  exact ⟨K, fun k hk => by show (if c then a k else b k) = some r; rw [if_pos hc]; exact h k hk⟩
theorem ev_neg {α : Type} {c : Prop} [Decidable c] {a b : Nat → Option α} {r : α} (hc : ¬ c) (h : Ev b r) : Ev (fun k => if c then a k else b k) r := by
  obtain ⟨K, h⟩ := h
  exact ⟨K, fun k hk => by show (if c then a k else b k) = some r; rw [if_neg hc]; exact h k hk⟩
theorem ev_bind_some {α β : Type} {a : α} {f : Nat → α → Option β} {r : β} (h : Ev (fun k => f k a) r) : Ev (fun k => (some a).bind (f k)) r := h
theorem ev_bind_of {α β : Type} {x : Option α} {a : α} {f : Nat → α → Option β} {r : β} (hx : x = some a) (h : Ev (fun k => f k a) r) : Ev (fun k => x.bind (f k)) r := by
  subst hx; exact h

theorem rd_nat (l : List Int) (i : Nat) : rd l (i : Int) = l.getD i 0 := by simp [rd]
theorem rd_at {l : List Int} {i : Nat} (h : i < l.length) : rd l (i : Int) = l[i] := by rw [rd_nat, List.getD_eq_getElem?_getD, List.getElem?_eq_getElem h]; rfl
theorem take_set_succ {α : Type} (l : List α) (i : Nat) (a : α) (h : i < l.length) : (l.set i a).take (i + 1) = l.take i ++ [a] := by
  rw [List.take_succ_eq_append_getElem (by simpa using h), List.take_set, List.set_eq_of_length_le (by rw [List.length_take]; omega)]
  simp

theorem rdOf_at {α : Type} (d : α) {l : List α} {i : Nat} (h : i < l.length) : rdOf d l (i : Int) = l[i] := by
  unfold rdOf; rw [Int.toNat_natCast, List.getD_eq_getElem?_getD, List.getElem?_eq_getElem h]; rfl
theorem maxLen_eq : maxLen = 9223372036854775807 := rfl

theorem keyOk_tells (a b : Int) (c : Bool) : ∃ v, spec_KeyOk.f a b c = some v ∧ impl_KeyOk.f a b c = some v ∧ (v = true → (a = 1 ∧ rok b = true ∧ 32 ≤ b) ∨ (a = 2 ∧ 1 ≤ b ∧ b ≤ 26) ∨ (3 ≤ a ∧ a ≤ 12)) := by
  simp only [spec_KeyOk.f, impl_KeyOk.f, spec_RuneOk_eq, impl_RuneOk_eq, spec_l1In_eq, impl_in_eq, Option.bind_some]
  by_cases h1 : a = 1
  · simp only [if_pos h1]
    by_cases h2 : rok b = true
    · simp only [if_pos h2]
      by_cases h3 : b ≥ 32
      · simp only [if_pos h3]
        by_cases h4 : b = 127
        · simp only [if_pos h4]; exact ⟨_, rfl, rfl, fun _ => .inl ⟨h1, h2, h3⟩⟩
        · simp only [if_neg h4]
          cases c with
          | true => exact ⟨!(b == 91), rfl, rfl, fun _ => .inl ⟨h1, h2, h3⟩⟩
          | false => exact ⟨true, rfl, rfl, fun _ => .inl ⟨h1, h2, h3⟩⟩
      · simp only [if_neg h3]; exact ⟨_, rfl, rfl, fun x => nomatch x⟩
    · simp only [if_neg h2]; exact ⟨_, rfl, rfl, fun x => nomatch x⟩
  · simp only [if_neg h1]
    by_cases h2 : a = 2
    · simp only [if_pos h2]
      by_cases h3 : (decide (1 ≤ b) && decide (b ≤ 26)) = true
      · simp only [if_pos h3]
        simp only [Bool.and_eq_true, decide_eq_true_eq] at h3
        refine Exists.elim (p := fun v => _ = some v) ?_ fun v hv => ⟨v, hv, hv, fun _ => .inr (.inl ⟨h2, h3⟩)⟩
        repeat' split
        all_goals exact ⟨_, rfl⟩
      · simp only [if_neg h3]; exact ⟨_, rfl, rfl, fun x => nomatch x⟩
    · simp only [if_neg h2]
      by_cases h3 : (decide (3 ≤ a) && decide (a ≤ 12)) = true
      · simp only [if_pos h3]
        simp only [Bool.and_eq_true, decide_eq_true_eq] at h3
        refine Exists.elim (p := fun v => _ = some v) ?_ fun v hv => ⟨v, hv, hv, fun _ => .inr (.inr h3)⟩
        repeat' split
        all_goals exact ⟨_, rfl⟩
      · simp only [if_neg h3]; exact ⟨_, rfl, rfl, fun x => nomatch x⟩
theorem putv_size (r : Int) : (putv r).size ≤ 4 := by
  unfold putv
  split
  · rw [strOfNums_size]; exact enc_length r
  · exact Nat.zero_le _
theorem putv_low {b : Int} (h0 : 1 ≤ b) (h1 : b ≤ 26) : putv b = strOfNums [b % 256] := by
  unfold putv enc
  rw [if_pos (rok_iff.mpr (by omega)), if_pos (by omega), Int.emod_eq_of_lt (by omega) (by omega)]
theorem Sent_same (a b : Int) (c : Bool) : ∃ v, Ev (fun k => spec_Sent.f k a b c) v ∧ Ev (fun k => impl_Sent.f k a b c) v := by
  unfold spec_Sent.f impl_Sent.f
  obtain ⟨v, h1, h2, h⟩ := keyOk_tells a b c
  cases v with
  | false => exact ⟨⟨#[]⟩, ev_bind_of h1 (ev_neg (by simp) (Ev.now _)), ev_bind_of h2 (ev_neg (by simp) (Ev.now _))⟩
  | true =>
    have hs := putv_size b
    rcases h rfl with ⟨e, hr, _⟩ | ⟨e, hr⟩ | hr
    · subst e
      cases c with
      | true =>
        refine ⟨⟨#[27]⟩ ++ putv b, ev_bind_of h1 (ev_pos rfl (Ev.bind ?_ (Ev.now _))), ev_bind_of h2 (ev_pos rfl (ev_neg (by omega) (ev_pos rfl (ev_succ ?_))))⟩
        · unfold spec_l13Sent.f
          refine ev_bind_some (ev_pos (by omega) (ev_pos (by simp) (ev_pos rfl (ev_succ ?_))))
          simp only [spec_l13Sent.j0, spec_Put_eq, Option.bind_some]
          exact ev_pos (by trivial) (ev_pos (by omega) (Ev.now _))
        · simp only [impl_Sent.j0]
          exact ev_pos (by trivial) (Ev.bind (impl_Put_ev b) (ev_pos (by omega) (Ev.now _)))
      | false =>
        refine ⟨putv b, ev_bind_of h1 (ev_pos rfl (Ev.bind ?_ (Ev.now _))), ev_bind_of h2 (ev_pos rfl (ev_neg (by omega) (ev_pos rfl (ev_succ ?_))))⟩
        · unfold spec_l13Sent.f
          refine ev_bind_some (ev_pos (by omega) (ev_pos (by simp) (ev_pos rfl (ev_succ ?_))))
          simp only [spec_l13Sent.j0, spec_Put_eq, Option.bind_some]
          exact ev_neg (by simp) (ev_pos (by trivial) (Ev.now _))
        · simp only [impl_Sent.j0]
          exact ev_neg (by simp) (ev_pos (by trivial) (Ev.bind (impl_Put_ev b) (Ev.now _)))
    · subst e
      refine ⟨putv b, ev_bind_of h1 (ev_pos rfl (Ev.bind ?_ (Ev.now _))), ev_bind_of h2 (ev_pos rfl (ev_pos rfl (ev_eq (Ev.now _) (putv_low hr.1 hr.2).symm)))⟩
      unfold spec_l13Sent.f
      refine ev_bind_some (ev_pos (by omega) (ev_pos (by simp) (ev_neg (by omega) (ev_succ ?_))))
      simp only [spec_l13Sent.j0, spec_Put_eq, Option.bind_some]
      exact ev_neg (by simp) (ev_neg (by omega) (ev_pos (by trivial) (Ev.now _)))
    · have hb : impl_sentBy.f a = some (rdOf ByteArray.empty ([(⟨#[]⟩ : ByteArray), (⟨#[]⟩ : ByteArray), (⟨#[]⟩ : ByteArray), (⟨#[13]⟩ : ByteArray), (⟨#[9]⟩ : ByteArray), (⟨#[127]⟩ : ByteArray), (⟨#[27, 91, 65]⟩ : ByteArray), (⟨#[27, 91, 66]⟩ : ByteArray), (⟨#[27, 91, 67]⟩ : ByteArray), (⟨#[27, 91, 68]⟩ : ByteArray), (⟨#[27, 91, 72]⟩ : ByteArray), (⟨#[27, 91, 70]⟩ : ByteArray), (⟨#[27, 91, 51, 126]⟩ : ByteArray)] : List ByteArray) a) := by
        unfold impl_sentBy.f
        rw [if_pos hr]
        have c2 : a = 3 ∨ a = 4 ∨ a = 5 ∨ a = 6 ∨ a = 7 ∨ a = 8 ∨ a = 9 ∨ a = 10 ∨ a = 11 ∨ a = 12 := by omega
        rcases c2 with rfl | rfl | rfl | rfl | rfl | rfl | rfl | rfl | rfl | rfl
        all_goals rfl
      refine ⟨_, ev_bind_of h1 (ev_pos rfl (Ev.bind ?_ (Ev.now (rdOf ByteArray.empty ([(⟨#[]⟩ : ByteArray), (⟨#[]⟩ : ByteArray), (⟨#[]⟩ : ByteArray), (⟨#[13]⟩ : ByteArray), (⟨#[9]⟩ : ByteArray), (⟨#[127]⟩ : ByteArray), (⟨#[27, 91, 65]⟩ : ByteArray), (⟨#[27, 91, 66]⟩ : ByteArray), (⟨#[27, 91, 67]⟩ : ByteArray), (⟨#[27, 91, 68]⟩ : ByteArray), (⟨#[27, 91, 72]⟩ : ByteArray), (⟨#[27, 91, 70]⟩ : ByteArray), (⟨#[27, 91, 51, 126]⟩ : ByteArray)] : List ByteArray) a)))), ev_bind_of h2 (ev_pos rfl (ev_neg (by omega) (ev_neg (by omega) (ev_succ ?_))))⟩
      · unfold spec_l13Sent.f
        refine ev_bind_some (ev_pos (by omega) (ev_pos (by simp; omega) (ev_neg (by omega) (ev_succ ?_))))
        simp only [spec_l13Sent.j0, spec_Put_eq, Option.bind_some]
        exact ev_neg (by simp) (ev_neg (by omega) (ev_neg (by omega) (Ev.now _)))
      · simp only [impl_Sent.j0]
        exact ev_neg (by simp) (ev_neg (by omega) (ev_bind_of hb (Ev.now _)))

def bn (s : ByteArray) (i : Nat) : Nat := (s.get! i).toNat
theorem bn_lt (s : ByteArray) (i : Nat) : bn s i < 256 := UInt8.toNat_lt _
theorem bn_get (s : ByteArray) (i : Nat) (h : i < s.size) : s[i] = s.get! i := (Utf8W.get!_of_lt s i h).symm
theorem bn_bt (s : ByteArray) (i : Nat) (h : i < s.size) : bt s (i : Int) = (bn s i : Int) := by
  unfold bt bn
  have e : (i : Int).toNat = i := Int.toNat_natCast i
  rw [dif_pos (by rw [e]; exact h)]
  congr 2
  have : ∀ j (hj : j < s.size), j = i → s[j] = s.get! i := fun j hj e => by subst e; exact bn_get s j hj
  exact this _ _ e
theorem str_nil (s : ByteArray) : s.toList = [] ↔ s.size = 0 := by
  rw [Lib.toList_data]
  constructor
  · intro h
    have := congrArg List.length h
    simpa using this
  · intro h
    exact List.eq_nil_of_length_eq_zero (by simpa using h)
def dcv (s : ByteArray) : Nat × Nat := Lib.decodeN s.size (bn s 0) (bn s 1) (bn s 2) (bn s 3)
def getv (s : ByteArray) : Int × Int := if s.size = 0 then (0, 0) else (((dcv s).1 : Int), ((dcv s).2 : Int))
theorem decodeN_rune (n b0 b1 b2 b3 : Nat) : (Lib.decodeN n b0 b1 b2 b3).1 ≤ 1114111 := by
  unfold Lib.decodeN
  repeat' split
  all_goals (simp only; omega)
theorem decodeN_width (n b0 b1 b2 b3 : Nat) (hn : 1 ≤ n) : 1 ≤ (Lib.decodeN n b0 b1 b2 b3).2 ∧ (Lib.decodeN n b0 b1 b2 b3).2 ≤ n ∧ (Lib.decodeN n b0 b1 b2 b3).2 ≤ 4 := by
  unfold Lib.decodeN
  repeat' split
  all_goals (simp only; omega)
theorem dcv_bounds (s : ByteArray) (h : s.size ≠ 0) : (dcv s).1 ≤ 1114111 ∧ 1 ≤ (dcv s).2 ∧ (dcv s).2 ≤ s.size ∧ (dcv s).2 ≤ 4 :=
  ⟨decodeN_rune _ _ _ _ _, decodeN_width _ _ _ _ _ (by omega)⟩
theorem decodeGo_dcv (s : ByteArray) (h : s.size ≠ 0) : Lib.decodeGo s = dcv s := by
  unfold Lib.decodeGo dcv bn
  rw [if_neg h, Lib.decode_at, Nat.sub_zero, Nat.zero_add, Nat.zero_add, Nat.zero_add]
theorem impl_Get_eq (s : ByteArray) : impl_Get.f s = some (getv s) := by
  unfold impl_Get.f getv
  by_cases h : s.size = 0
  · rw [if_pos ((str_nil s).mpr h), if_pos h]
  · rw [if_neg (fun x => h ((str_nil s).mp x)), if_neg h]
    unfold utf8_DecodeRuneInString.f
    have := (dcv_bounds s h).1
    simp only [Option.bind_some, decodeGo_dcv s h, w64 (x := ((dcv s).1 : Int)) (by omega) (by omega)]
theorem getv_bounds (s : ByteArray) (h : s.size ≠ 0) : 0 ≤ (getv s).1 ∧ (getv s).1 ≤ 1114111 ∧ 1 ≤ (getv s).2 ∧ (getv s).2 ≤ s.size ∧ (getv s).2 ≤ 4 := by
  unfold getv
  rw [if_neg h]
  have := dcv_bounds s h
  simp only
  omega
theorem ext_size (s : ByteArray) (a : Nat) : (s.extract a s.size).size = s.size - a := by
  rw [ByteArray.size_extract]; omega

/-- The first n bytes, as numbers. -/
def bl (s : ByteArray) (n : Nat) : List Int := (List.range n).map fun i => (bn s i : Int)
theorem extract_toList (s : ByteArray) (n : Nat) (h : n ≤ s.size) : (s.extract 0 n).toList = (bl s n).map fun x => UInt8.ofNat x.toNat := by
  rw [Lib.toList_data, ByteArray.data_extract, Array.toList_extract]
  refine List.ext_getElem ?_ fun i h1 h2 => ?_
  · have : s.data.toList.length = s.size := by rw [Array.length_toList]; rfl
    simp [bl]; omega
  · have hi : i < s.size := by simp [bl] at h2; omega
    simp only [bl, List.map_map, List.getElem_map, List.getElem_range, Function.comp, Int.toNat_natCast, List.getElem_take, List.getElem_drop, Array.getElem_toList, Nat.zero_add]
    have : s[i] = s.get! i := bn_get s i hi
    unfold bn
    rw [← this, UInt8.ofNat_toNat]
    rfl
theorem ofNat_inj {x y : Int} (hx : 0 ≤ x ∧ x ≤ 255) (hy : 0 ≤ y ∧ y ≤ 255) (h : UInt8.ofNat x.toNat = UInt8.ofNat y.toNat) : x = y := by
  have := congrArg UInt8.toNat h
  simp only [UInt8.toNat_ofNat'] at this
  omega
theorem bytes_inj : ∀ (l m : List Int), (∀ x ∈ l, 0 ≤ x ∧ x ≤ 255) → (∀ x ∈ m, 0 ≤ x ∧ x ≤ 255) → (l.map fun x => UInt8.ofNat x.toNat) = (m.map fun x => UInt8.ofNat x.toNat) → l = m
  | [], [], _, _, _ => rfl
  | [], y :: m, _, _, h => by simp at h
  | x :: l, [], _, _, h => by simp at h
  | x :: l, y :: m, hl, hm, h => by
    simp only [List.map_cons, List.cons.injEq] at h
    rw [ofNat_inj (hl x (by simp)) (hm y (by simp)) h.1, bytes_inj l m (fun z hz => hl z (by simp [hz])) (fun z hz => hm z (by simp [hz])) h.2]
theorem bl_range (s : ByteArray) (n : Nat) : ∀ x ∈ bl s n, 0 ≤ x ∧ x ≤ 255 := by
  intro x hx
  simp only [bl, List.mem_map, List.mem_range] at hx
  obtain ⟨i, _, rfl⟩ := hx
  have := bn_lt s i
  omega
theorem put_is (s : ByteArray) (r : Int) (n : Nat) (h : n ≤ s.size) (h1 : 1 ≤ n) : (putv r).toList = (s.extract 0 n).toList ↔ (rok r = true ∧ enc r = bl s n) := by
  rw [extract_toList s n h]
  unfold putv
  by_cases hr : rok r = true
  · rw [if_pos hr, Lib.toList_data, strOfNums_data]
    exact ⟨fun e => ⟨hr, bytes_inj _ _ (enc_byte hr) (bl_range s n) e⟩, fun e => by rw [e.2]⟩
  · rw [if_neg hr]
    constructor
    · intro e
      have := congrArg List.length e
      simp [bl, Lib.toList_data] at this
      omega
    · intro e; exact absurd e.1 hr
def longv (b : Nat) : Nat := if b < 128 then 1 else if 192 ≤ b ∧ b < 224 then 2 else if 224 ≤ b ∧ b < 240 then 3 else if 240 ≤ b ∧ b < 248 then 4 else 0
theorem spec_l1Long_ev (b : Nat) : Ev (fun k => spec_l1Long.f k (b : Int)) (longv b : Int) := by
  have j1 : ∀ c : Bool, c = decide (224 ≤ b ∧ b < 240) → Ev (fun k => spec_l1Long.j1 k (b : Int) c) (if 224 ≤ b ∧ b < 240 then 3 else if 240 ≤ b ∧ b < 248 then 4 else 0 : Int) := by
    intro c hc
    refine ev_succ ?_
    simp only [spec_l1Long.j1]
    by_cases h : 224 ≤ b ∧ b < 240
    · rw [decide_eq_true h] at hc; exact ev_pos hc (ev_eq (Ev.now _) (if_pos h).symm)
    · rw [decide_eq_false h] at hc
      refine ev_neg (by rw [hc]; simp) (ev_eq (r := if 240 ≤ b ∧ b < 248 then 4 else 0) ?_ (if_neg h).symm)
      by_cases q : (b : Int) ≥ 240
      · refine ev_pos q ?_
        by_cases q2 : (b : Int) < 248
        · exact ev_pos q2 (ev_eq (Ev.now _) (if_pos (by omega)).symm)
        · exact ev_neg q2 (ev_eq (Ev.now _) (if_neg (by omega)).symm)
      · exact ev_neg q (ev_eq (Ev.now _) (if_neg (by omega)).symm)
  have j0 : ∀ c : Bool, c = decide (192 ≤ b ∧ b < 224) → Ev (fun k => spec_l1Long.j0 k (b : Int) c) (if 192 ≤ b ∧ b < 224 then 2 else if 224 ≤ b ∧ b < 240 then 3 else if 240 ≤ b ∧ b < 248 then 4 else 0 : Int) := by
    intro c hc
    refine ev_succ ?_
    simp only [spec_l1Long.j0]
    by_cases h : 192 ≤ b ∧ b < 224
    · rw [decide_eq_true h] at hc; exact ev_pos hc (ev_eq (Ev.now _) (if_pos h).symm)
    · rw [decide_eq_false h] at hc
      refine ev_neg (by rw [hc]; simp) (ev_eq (r := if 224 ≤ b ∧ b < 240 then 3 else if 240 ≤ b ∧ b < 248 then 4 else 0) ?_ (if_neg h).symm)
      by_cases q : (b : Int) ≥ 224
      · exact ev_pos q (j1 _ (decide_eq_decide.mpr (by omega)))
      · exact ev_neg q (j1 _ (decide_eq_false (by omega)).symm)
  unfold spec_l1Long.f
  have hv : (longv b : Int) = if b < 128 then 1 else (if 192 ≤ b ∧ b < 224 then 2 else if 224 ≤ b ∧ b < 240 then 3 else if 240 ≤ b ∧ b < 248 then 4 else 0 : Int) := by
    unfold longv; split
    · rfl
    · split
      · rfl
      · split
        · rfl
        · split <;> rfl
  by_cases h : (b : Int) < 128
  · exact ev_pos h (ev_eq (Ev.now _) (by rw [hv, if_pos (by omega)]))
  · refine ev_neg h (ev_eq (r := (if 192 ≤ b ∧ b < 224 then 2 else if 224 ≤ b ∧ b < 240 then 3 else if 240 ≤ b ∧ b < 248 then 4 else 0 : Int)) ?_ (by rw [hv]; exact (if_neg (by omega)).symm))
    by_cases q : (b : Int) ≥ 192
    · exact ev_pos q (j0 _ (decide_eq_decide.mpr (by omega)))
    · exact ev_neg q (j0 _ (decide_eq_false (by omega)).symm)
/-- What is told behind the bytes. -/
def tellv (s : ByteArray) (r n : Nat) : Int × Int := if rok (r : Int) = true ∧ enc (r : Int) = bl s n then ((r : Int), (n : Int)) else (65533, 1)
theorem get_end (s : ByteArray) (r n : Nat) (hn : n ≤ s.size) (h1 : 1 ≤ n) : Ev (fun k => spec_Get.l0 k s (n : Int) (r : Int) (n : Int)) (tellv s r n) := by
  refine ev_succ ?_
  simp only [spec_Get.l0, spec_Put_eq, Option.bind_some, Int.toNat_natCast]
  refine ev_neg (by omega) (ev_pos (by omega) (ev_pos (by omega) ?_))
  unfold tellv
  by_cases h : (putv (r : Int)).toList = (s.extract 0 n).toList
  · exact ev_pos h (ev_eq (Ev.now _) (if_pos ((put_is s _ n hn h1).mp h)).symm)
  · exact ev_neg h (ev_eq (Ev.now _) (if_neg (fun x => h ((put_is s _ n hn h1).mpr x))).symm)
theorem get_step (s : ByteArray) (r n i : Nat) (hi : i < n) (hn : n ≤ s.size) (hn4 : n ≤ 4) (hr : r < 1073741824) {v : Int × Int} (h : Ev (fun k => spec_Get.l0 k s (n : Int) ((r * 64 + bn s i % 64 : Nat) : Int) ((i + 1 : Nat) : Int)) v) :
    Ev (fun k => spec_Get.l0 k s (n : Int) (r : Int) (i : Int)) v := by
  have hb := bn_lt s i
  have e1 : ∀ _ : Unit, wrap64 (wrap64 ((r : Int) * 64) + wrap64 (Int.tmod (bt s (i : Int)) 64)) = ((r * 64 + bn s i % 64 : Nat) : Int) := fun _ => by
    rw [bn_bt s i (by omega), Int.tmod_eq_emod_of_nonneg (by omega), w64 (x := (r : Int) * 64) (by omega) (by omega), w64 (x := ((bn s i : Nat) : Int) % 64) (by omega) (by omega), w64 (by omega) (by omega)]
    omega
  refine ev_succ ?_
  simp only [spec_Get.l0, e1 (), show wrap64 ((i : Int) + 1) = ((i + 1 : Nat) : Int) by rw [w64 (by omega) (by omega)]; omega]
  exact ev_pos (by omega) (ev_pos (by omega) (ev_pos (by omega) h))
theorem get_j0 (s : ByteArray) (n m r : Nat) (hs : 0 < s.size) (hn : 1 < n) (hn4 : n ≤ 4) (hm : shl .i64 1 (IntKind.u64.wrap (wrap64 (7 - (n : Int)))) = (m : Int)) (hm0 : 0 < m) (hw : 0 ≤ IntKind.u64.wrap (wrap64 (7 - (n : Int)))) (hr : r = bn s 0 % m) {v : Int × Int}
    (h : Ev (fun k => spec_Get.l0 k s (n : Int) (r : Int) 1) v) : Ev (fun k => spec_Get.j0 k s (n : Int) false) v := by
  have hb := bn_lt s 0
  have e0 : ∀ _ : Unit, Int.tmod (wrap64 (bt s 0)) (m : Int) = (r : Int) := fun _ => by
    have := bn_bt s 0 hs
    rw [show ((0 : Nat) : Int) = 0 from rfl] at this
    rw [this, w64 (by omega) (by omega), Int.tmod_eq_emod_of_nonneg (by omega), hr]; omega
  refine ev_succ ?_
  simp only [spec_Get.j0, hm, e0 ()]
  refine ev_neg (by simp) (ev_pos (by omega) (ev_pos (by omega) (ev_pos hw (ev_neg (by omega) (ev_succ ?_)))))
  simp only [spec_Get.j1]
  exact h
theorem tell1 (s : ByteArray) (h : bn s 0 < 128) : tellv s (bn s 0) 1 = (((dcv s).1 : Int), ((dcv s).2 : Int)) := by
  have hd : dcv s = (bn s 0, 1) := by unfold dcv Lib.decodeN; rw [if_pos h]
  have hc : rok ((bn s 0 : Nat) : Int) = true ∧ enc ((bn s 0 : Nat) : Int) = bl s 1 := by
    refine ⟨rok_iff.mpr (by omega), ?_⟩
    unfold enc; rw [if_pos (by omega)]; rfl
  unfold tellv
  rw [if_pos hc, hd]
theorem tell2 (s : ByteArray) (hs : 2 ≤ s.size) (h : 192 ≤ bn s 0 ∧ bn s 0 < 224) : tellv s (bn s 0 % 32 * 64 + bn s 1 % 64) 2 = (((dcv s).1 : Int), ((dcv s).2 : Int)) := by
  have b1 := bn_lt s 1
  have hbl : bl s 2 = [(bn s 0 : Int), (bn s 1 : Int)] := rfl
  unfold tellv dcv
  rw [hbl]
  generalize bn s 0 = x0 at *
  generalize bn s 1 = x1 at *
  generalize bn s 2 = x2 at *
  generalize bn s 3 = x3 at *
  have key : (rok ((x0 % 32 * 64 + x1 % 64 : Nat) : Int) = true ∧ enc ((x0 % 32 * 64 + x1 % 64 : Nat) : Int) = [(x0 : Int), (x1 : Int)]) ↔ (x1 / 64 = 2 ∧ 128 ≤ x0 % 32 * 64 + x1 % 64) := by
    constructor
    · rintro ⟨_, e⟩
      unfold enc at e
      split at e
      · simp at e
      · split at e
        · simp only [List.cons.injEq, and_true] at e; omega
        · omega
    · intro q
      refine ⟨rok_iff.mpr (by omega), ?_⟩
      unfold enc
      rw [if_neg (by omega), if_pos (by omega)]
      simp only [List.cons.injEq, and_true]; omega
  unfold Lib.decodeN
  rw [if_neg (show ¬ x0 < 128 by omega)]
  by_cases q : x1 / 64 = 2
  · rw [if_pos (show x0 / 32 = 6 ∧ 1 < s.size ∧ x1 / 64 = 2 by omega)]
    by_cases q2 : x0 % 32 * 64 + x1 % 64 ≥ 128
    · rw [if_pos (key.mpr ⟨q, q2⟩), if_pos q2]
    · rw [if_neg (fun x => q2 (key.mp x).2), if_neg q2]; rfl
  · rw [if_neg (fun x => q (key.mp x).1), if_neg (by omega), if_neg (by omega), if_neg (by omega)]; rfl
theorem tell3 (s : ByteArray) (hs : 3 ≤ s.size) (h : 224 ≤ bn s 0 ∧ bn s 0 < 240) : tellv s ((bn s 0 % 16 * 64 + bn s 1 % 64) * 64 + bn s 2 % 64) 3 = (((dcv s).1 : Int), ((dcv s).2 : Int)) := by
  have b1 := bn_lt s 1
  have b2 := bn_lt s 2
  have hbl : bl s 3 = [(bn s 0 : Int), (bn s 1 : Int), (bn s 2 : Int)] := rfl
  unfold tellv dcv
  rw [hbl]
  generalize bn s 0 = x0 at *
  generalize bn s 1 = x1 at *
  generalize bn s 2 = x2 at *
  generalize bn s 3 = x3 at *
  have eR : (x0 % 16 * 64 + x1 % 64) * 64 + x2 % 64 = x0 % 16 * 4096 + x1 % 64 * 64 + x2 % 64 := by omega
  rw [eR]
  have key : (rok ((x0 % 16 * 4096 + x1 % 64 * 64 + x2 % 64 : Nat) : Int) = true ∧ enc ((x0 % 16 * 4096 + x1 % 64 * 64 + x2 % 64 : Nat) : Int) = [(x0 : Int), (x1 : Int), (x2 : Int)]) ↔ (x1 / 64 = 2 ∧ x2 / 64 = 2 ∧ 2048 ≤ x0 % 16 * 4096 + x1 % 64 * 64 + x2 % 64 ∧ (x0 % 16 * 4096 + x1 % 64 * 64 + x2 % 64 < 55296 ∨ 57344 ≤ x0 % 16 * 4096 + x1 % 64 * 64 + x2 % 64)) := by
    constructor
    · rintro ⟨hr, e⟩
      have hr := rok_iff.mp hr
      unfold enc at e
      split at e
      · simp at e
      · split at e
        · simp at e
        · split at e
          · simp only [List.cons.injEq, and_true] at e; omega
          · omega
    · intro q
      refine ⟨rok_iff.mpr (by omega), ?_⟩
      unfold enc
      rw [if_neg (by omega), if_neg (by omega), if_pos (by omega)]
      simp only [List.cons.injEq, and_true]; omega
  unfold Lib.decodeN
  rw [if_neg (show ¬ x0 < 128 by omega), if_neg (show ¬ (x0 / 32 = 6 ∧ 1 < s.size ∧ x1 / 64 = 2) by omega)]
  by_cases q : x1 / 64 = 2 ∧ x2 / 64 = 2
  · rw [if_pos (show x0 / 16 = 14 ∧ (1 < s.size ∧ x1 / 64 = 2) ∧ (2 < s.size ∧ x2 / 64 = 2) by omega)]
    by_cases q2 : x0 % 16 * 4096 + x1 % 64 * 64 + x2 % 64 ≥ 2048 ∧ (x0 % 16 * 4096 + x1 % 64 * 64 + x2 % 64 < 55296 ∨ (57344 ≤ x0 % 16 * 4096 + x1 % 64 * 64 + x2 % 64 ∧ x0 % 16 * 4096 + x1 % 64 * 64 + x2 % 64 ≤ 1114111))
    · rw [if_pos (key.mpr ⟨q.1, q.2, q2.1, by omega⟩), if_pos q2]
    · rw [if_neg (fun x => q2 (by have := key.mp x; omega)), if_neg q2]; rfl
  · rw [if_neg (fun x => q (by have := key.mp x; omega)), if_neg (by omega), if_neg (by omega)]; rfl
theorem tell4 (s : ByteArray) (hs : 4 ≤ s.size) (h : 240 ≤ bn s 0 ∧ bn s 0 < 248) : tellv s (((bn s 0 % 8 * 64 + bn s 1 % 64) * 64 + bn s 2 % 64) * 64 + bn s 3 % 64) 4 = (((dcv s).1 : Int), ((dcv s).2 : Int)) := by
  have b1 := bn_lt s 1
  have b2 := bn_lt s 2
  have b3 := bn_lt s 3
  have hbl : bl s 4 = [(bn s 0 : Int), (bn s 1 : Int), (bn s 2 : Int), (bn s 3 : Int)] := rfl
  unfold tellv dcv
  rw [hbl]
  generalize bn s 0 = x0 at *
  generalize bn s 1 = x1 at *
  generalize bn s 2 = x2 at *
  generalize bn s 3 = x3 at *
  have eR : ((x0 % 8 * 64 + x1 % 64) * 64 + x2 % 64) * 64 + x3 % 64 = x0 % 8 * 262144 + x1 % 64 * 4096 + x2 % 64 * 64 + x3 % 64 := by omega
  rw [eR]
  have key : (rok ((x0 % 8 * 262144 + x1 % 64 * 4096 + x2 % 64 * 64 + x3 % 64 : Nat) : Int) = true ∧ enc ((x0 % 8 * 262144 + x1 % 64 * 4096 + x2 % 64 * 64 + x3 % 64 : Nat) : Int) = [(x0 : Int), (x1 : Int), (x2 : Int), (x3 : Int)]) ↔ (x1 / 64 = 2 ∧ x2 / 64 = 2 ∧ x3 / 64 = 2 ∧ 65536 ≤ x0 % 8 * 262144 + x1 % 64 * 4096 + x2 % 64 * 64 + x3 % 64 ∧ x0 % 8 * 262144 + x1 % 64 * 4096 + x2 % 64 * 64 + x3 % 64 ≤ 1114111) := by
    constructor
    · rintro ⟨hr, e⟩
      have hr := rok_iff.mp hr
      unfold enc at e
      split at e
      · simp at e
      · split at e
        · simp at e
        · split at e
          · simp at e
          · simp only [List.cons.injEq, and_true] at e; omega
    · intro q
      refine ⟨rok_iff.mpr (by omega), ?_⟩
      unfold enc
      rw [if_neg (by omega), if_neg (by omega), if_neg (by omega)]
      simp only [List.cons.injEq, and_true]; omega
  unfold Lib.decodeN
  rw [if_neg (show ¬ x0 < 128 by omega), if_neg (show ¬ (x0 / 32 = 6 ∧ 1 < s.size ∧ x1 / 64 = 2) by omega), if_neg (show ¬ (x0 / 16 = 14 ∧ (1 < s.size ∧ x1 / 64 = 2) ∧ (2 < s.size ∧ x2 / 64 = 2)) by omega)]
  by_cases q : x1 / 64 = 2 ∧ x2 / 64 = 2 ∧ x3 / 64 = 2
  · rw [if_pos (show x0 / 8 = 30 ∧ (1 < s.size ∧ x1 / 64 = 2) ∧ (2 < s.size ∧ x2 / 64 = 2) ∧ (3 < s.size ∧ x3 / 64 = 2) by omega)]
    by_cases q2 : x0 % 8 * 262144 + x1 % 64 * 4096 + x2 % 64 * 64 + x3 % 64 ≥ 65536 ∧ (x0 % 8 * 262144 + x1 % 64 * 4096 + x2 % 64 * 64 + x3 % 64 < 55296 ∨ (57344 ≤ x0 % 8 * 262144 + x1 % 64 * 4096 + x2 % 64 * 64 + x3 % 64 ∧ x0 % 8 * 262144 + x1 % 64 * 4096 + x2 % 64 * 64 + x3 % 64 ≤ 1114111))
    · rw [if_pos (key.mpr ⟨q.1, q.2.1, q.2.2, q2.1, by omega⟩), if_pos q2]
    · rw [if_neg (fun x => q2 (by have := key.mp x; omega)), if_neg q2]; rfl
  · rw [if_neg (fun x => q (by have := key.mp x; omega)), if_neg (by omega)]; rfl
theorem spec_Get_ev (s : ByteArray) : Ev (fun k => spec_Get.f k s) (getv s) := by
  unfold spec_Get.f getv
  by_cases h : s.size = 0
  · rw [if_pos h]; exact ev_pos ((str_nil s).mpr h) (Ev.now _)
  rw [if_neg h]
  refine ev_neg (fun x => h ((str_nil s).mp x)) (ev_pos (by omega) ?_)
  have e0 : bt s 0 = (bn s 0 : Int) := bn_bt s 0 (by omega)
  rw [e0]
  refine Ev.bind (spec_l1Long_ev (bn s 0)) ?_
  have hb := bn_lt s 0
  have bad : ∀ n : Int, (((dcv s).1 : Int), ((dcv s).2 : Int)) = (65533, 1) → Ev (fun k => spec_Get.j0 k s n true) (((dcv s).1 : Int), ((dcv s).2 : Int)) := by
    intro n e
    refine ev_eq (ev_succ ?_) e.symm
    simp only [spec_Get.j0]
    exact ev_pos (by trivial) (Ev.now _)
  by_cases h1 : bn s 0 < 128
  · have hl : longv (bn s 0) = 1 := by unfold longv; rw [if_pos h1]
    rw [hl]
    refine ev_neg (by omega) ?_
    rw [decide_eq_false (by omega)]
    refine ev_succ ?_
    have e1 : ∀ _ : Unit, wrap64 (bt s 0) = (bn s 0 : Int) := fun _ => by rw [e0, w64 (by omega) (by omega)]
    simp only [spec_Get.j0, e1 ()]
    refine ev_neg (by simp) (ev_pos (by omega) (ev_neg (by omega) (ev_succ ?_)))
    simp only [spec_Get.j1]
    exact ev_eq (get_end s (bn s 0) 1 (by omega) (by omega)) (tell1 s h1)
  by_cases h2 : 192 ≤ bn s 0 ∧ bn s 0 < 224
  · have hl : longv (bn s 0) = 2 := by unfold longv; rw [if_neg h1, if_pos h2]
    rw [hl]
    refine ev_neg (by omega) ?_
    by_cases hs : s.size < 2
    · rw [decide_eq_true (by omega)]
      refine bad _ ?_
      unfold dcv Lib.decodeN
      rw [if_neg h1, if_neg (by omega), if_neg (by omega), if_neg (by omega)]; rfl
    · rw [decide_eq_false (by omega)]
      refine get_j0 s 2 32 (bn s 0 % 32) (by omega) (by omega) (by omega) (by decide +kernel) (by omega) (by decide +kernel) rfl ?_
      exact get_step s _ 2 1 (by omega) (by omega) (by omega) (by omega) (ev_eq (get_end s _ 2 (by omega) (by omega)) (tell2 s (by omega) h2))
  by_cases h3 : 224 ≤ bn s 0 ∧ bn s 0 < 240
  · have hl : longv (bn s 0) = 3 := by unfold longv; rw [if_neg h1, if_neg h2, if_pos h3]
    rw [hl]
    refine ev_neg (by omega) ?_
    by_cases hs : s.size < 3
    · rw [decide_eq_true (by omega)]
      refine bad _ ?_
      unfold dcv Lib.decodeN
      rw [if_neg h1, if_neg (by omega), if_neg (by omega), if_neg (by omega)]; rfl
    · rw [decide_eq_false (by omega)]
      refine get_j0 s 3 16 (bn s 0 % 16) (by omega) (by omega) (by omega) (by decide +kernel) (by omega) (by decide +kernel) rfl ?_
      exact get_step s _ 3 1 (by omega) (by omega) (by omega) (by omega) (get_step s _ 3 2 (by omega) (by omega) (by omega) (by omega) (ev_eq (get_end s _ 3 (by omega) (by omega)) (tell3 s (by omega) h3)))
  by_cases h4 : 240 ≤ bn s 0 ∧ bn s 0 < 248
  · have hl : longv (bn s 0) = 4 := by unfold longv; rw [if_neg h1, if_neg h2, if_neg h3, if_pos h4]
    rw [hl]
    refine ev_neg (by omega) ?_
    by_cases hs : s.size < 4
    · rw [decide_eq_true (by omega)]
      refine bad _ ?_
      unfold dcv Lib.decodeN
      rw [if_neg h1, if_neg (by omega), if_neg (by omega), if_neg (by omega)]; rfl
    · rw [decide_eq_false (by omega)]
      refine get_j0 s 4 8 (bn s 0 % 8) (by omega) (by omega) (by omega) (by decide +kernel) (by omega) (by decide +kernel) rfl ?_
      exact get_step s _ 4 1 (by omega) (by omega) (by omega) (by omega) (get_step s _ 4 2 (by omega) (by omega) (by omega) (by omega) (get_step s _ 4 3 (by omega) (by omega) (by omega) (by omega) (ev_eq (get_end s _ 4 (by omega) (by omega)) (tell4 s (by omega) h4))))
  · have hl : longv (bn s 0) = 0 := by unfold longv; rw [if_neg h1, if_neg h2, if_neg h3, if_neg h4]
    rw [hl]
    refine ev_pos (by omega) (bad _ ?_)
    unfold dcv Lib.decodeN
    rw [if_neg h1, if_neg (by omega), if_neg (by omega), if_neg (by omega)]; rfl

theorem ev_unique {α : Type} {g : Nat → Option α} {a b : α} (h : Ev g a) (m : Ev g b) : a = b := by
  obtain ⟨K, h⟩ := h
  obtain ⟨L, m⟩ := m
  exact Option.some.inj ((h (max K L) (Nat.le_max_left _ _)).symm.trans (m (max K L) (Nat.le_max_right _ _)))
/-- Text s begins with text t. -/
def pre (s t : ByteArray) : Bool := decide (t.size ≤ s.size) && ((s.extract 0 t.size).toList == t.toList)
theorem lite_eq (s t : ByteArray) : stringslite_HasPrefix.f s t = some (pre s t) := by
  unfold stringslite_HasPrefix.f pre
  simp only [Int.toNat_natCast]
  by_cases h : t.size ≤ s.size
  · rw [if_pos (by omega), if_pos (by omega), if_pos (by omega), decide_eq_true h, Bool.true_and]
  · rw [if_neg (by omega), decide_eq_false h, Bool.false_and]
theorem hasPrefix_eq (s t : ByteArray) : strings_HasPrefix.f s t = some (pre s t) := by
  unfold strings_HasPrefix.f
  rw [lite_eq]; rfl
theorem pre_iff (s t : ByteArray) : pre s t = true ↔ t.size ≤ s.size ∧ (s.extract 0 t.size).toList = t.toList := by
  unfold pre; rw [Bool.and_eq_true, decide_eq_true_eq, beq_iff_eq]
def esc : ByteArray := ⟨#[27]⟩
theorem esc_size : esc.size = 1 := rfl
theorem toList_length (s : ByteArray) : s.toList.length = s.size := by rw [Lib.toList_data, Array.length_toList]; rfl
theorem pre_esc (s : ByteArray) : pre s esc = true ↔ s.size ≠ 0 ∧ bn s 0 = 27 := by
  have hb := bn_lt s 0
  rw [pre_iff, esc_size]
  have e : esc.toList = ([27] : List Int).map fun x => UInt8.ofNat x.toNat := by rw [Lib.toList_data]; rfl
  constructor
  · rintro ⟨h1, h2⟩
    rw [extract_toList s 1 h1, e] at h2
    have := bytes_inj _ _ (bl_range s 1) (by simp) h2
    have h3 : [(bn s 0 : Int)] = [27] := this
    simp only [List.cons.injEq, and_true] at h3
    omega
  · rintro ⟨h1, h2⟩
    refine ⟨by omega, ?_⟩
    rw [extract_toList s 1 (by omega), e]
    have h3 : bl s 1 = [27] := by
      show [(bn s 0 : Int)] = [27]
      rw [h2]; rfl
    rw [h3]
theorem cutPrefix_eq (s : ByteArray) : strings_CutPrefix.f s (⟨#[27]⟩ : ByteArray) = some (if pre s esc = true then (s.extract 1 s.size, true) else (s, false)) := by
  unfold strings_CutPrefix.f stringslite_CutPrefix.f
  rw [show (⟨#[27]⟩ : ByteArray) = esc from rfl, lite_eq]
  simp only [Option.bind_some]
  by_cases h : pre s esc = true
  · have := (pre_iff s esc).mp h
    have h1 := this.1
    rw [if_pos h, if_pos h, if_pos (by omega), if_pos (by omega), Option.bind_some]
    rfl
  · rw [if_neg h, if_neg h]; rfl
def tens : List ByteArray := [(⟨#[]⟩ : ByteArray), (⟨#[]⟩ : ByteArray), (⟨#[]⟩ : ByteArray), (⟨#[13]⟩ : ByteArray), (⟨#[9]⟩ : ByteArray), (⟨#[127]⟩ : ByteArray), (⟨#[27, 91, 65]⟩ : ByteArray), (⟨#[27, 91, 66]⟩ : ByteArray), (⟨#[27, 91, 67]⟩ : ByteArray), (⟨#[27, 91, 68]⟩ : ByteArray), (⟨#[27, 91, 72]⟩ : ByteArray), (⟨#[27, 91, 70]⟩ : ByteArray), (⟨#[27, 91, 51, 126]⟩ : ByteArray)]
def sb (a : Int) : ByteArray := rdOf ByteArray.empty tens a
theorem spec_tens (a : Int) (h : 3 ≤ a ∧ a ≤ 12) : Ev (fun k => spec_l13Sent.f k a 0 false) (sb a) := by
  unfold spec_l13Sent.f
  refine ev_bind_some (ev_pos (by omega) (ev_pos (by simp; omega) (ev_neg (by omega) (ev_succ ?_))))
  simp only [spec_l13Sent.j0, spec_Put_eq, Option.bind_some]
  exact ev_neg (by simp) (ev_neg (by omega) (ev_neg (by omega) (Ev.now _)))
theorem ten_cases {a : Int} (h : 3 ≤ a ∧ a ≤ 12) : a = 3 ∨ a = 4 ∨ a = 5 ∨ a = 6 ∨ a = 7 ∨ a = 8 ∨ a = 9 ∨ a = 10 ∨ a = 11 ∨ a = 12 := by omega
theorem impl_tens (a : Int) (h : 3 ≤ a ∧ a ≤ 12) : impl_sentBy.f a = some (sb a) := by
  unfold impl_sentBy.f
  rw [if_pos h]
  rcases ten_cases h with rfl | rfl | rfl | rfl | rfl | rfl | rfl | rfl | rfl | rfl
  all_goals rfl
theorem sb_size (a : Int) (h : 3 ≤ a ∧ a ≤ 12) : 1 ≤ (sb a).size := by
  rcases ten_cases h with rfl | rfl | rfl | rfl | rfl | rfl | rfl | rfl | rfl | rfl
  all_goals decide
theorem Sent_tens (a : Int) (h : 3 ≤ a ∧ a ≤ 12) : Ev (fun k => impl_Sent.f k a 0 false) (sb a) := by
  have hk : impl_KeyOk.f a 0 false = some true := by
    rcases ten_cases h with rfl | rfl | rfl | rfl | rfl | rfl | rfl | rfl | rfl | rfl
    all_goals rfl
  unfold impl_Sent.f
  refine ev_bind_of hk (ev_pos rfl (ev_neg (by omega) (ev_neg (by omega) (ev_succ ?_))))
  simp only [impl_Sent.j0]
  exact ev_neg (by simp) (ev_neg (by omega) (ev_bind_of (impl_tens a h) (Ev.now _)))
theorem Sent1 (b : Int) (c : Bool) : ∃ v, Ev (fun k => spec_Sent.f k 1 b c) v ∧ Ev (fun k => impl_Sent.f k 1 b c) v ∧ (v.size = 0 ∨ (rok b = true ∧ 32 ≤ b ∧ v = (if c = true then esc ++ putv b else putv b))) := by
  unfold spec_Sent.f impl_Sent.f
  obtain ⟨v, h1, h2, h⟩ := keyOk_tells 1 b c
  cases v with
  | false => exact ⟨⟨#[]⟩, ev_bind_of h1 (ev_neg (by simp) (Ev.now _)), ev_bind_of h2 (ev_neg (by simp) (Ev.now _)), .inl rfl⟩
  | true =>
    have hs := putv_size b
    rcases h rfl with ⟨e, hr, h32⟩ | ⟨e, hr⟩ | hr
    · cases c with
      | true =>
        refine ⟨esc ++ putv b, ev_bind_of h1 (ev_pos rfl (Ev.bind ?_ (Ev.now _))), ev_bind_of h2 (ev_pos rfl (ev_neg (by omega) (ev_pos rfl (ev_succ ?_)))), .inr ⟨hr, h32, (if_pos rfl).symm⟩⟩
        · unfold spec_l13Sent.f
          refine ev_bind_some (ev_pos (by omega) (ev_pos (by simp) (ev_pos rfl (ev_succ ?_))))
          simp only [spec_l13Sent.j0, spec_Put_eq, Option.bind_some]
          exact ev_pos (by trivial) (ev_pos (by omega) (Ev.now _))
        · simp only [impl_Sent.j0]
          exact ev_pos (by trivial) (Ev.bind (impl_Put_ev b) (ev_pos (by omega) (Ev.now _)))
      | false =>
        refine ⟨putv b, ev_bind_of h1 (ev_pos rfl (Ev.bind ?_ (Ev.now _))), ev_bind_of h2 (ev_pos rfl (ev_neg (by omega) (ev_pos rfl (ev_succ ?_)))), .inr ⟨hr, h32, (if_neg (by simp)).symm⟩⟩
        · unfold spec_l13Sent.f
          refine ev_bind_some (ev_pos (by omega) (ev_pos (by simp) (ev_pos rfl (ev_succ ?_))))
          simp only [spec_l13Sent.j0, spec_Put_eq, Option.bind_some]
          exact ev_neg (by simp) (ev_pos (by trivial) (Ev.now _))
        · simp only [impl_Sent.j0]
          exact ev_neg (by simp) (ev_pos (by trivial) (Ev.bind (impl_Put_ev b) (Ev.now _)))
    · omega
    · omega
theorem Sent2 (b : Int) : ∃ v, spec_KeyOk.f 2 b false = some v ∧ (v = true → 1 ≤ b ∧ b ≤ 26) ∧ Ev (fun k => impl_Sent.f k 2 b false) (if v = true then strOfNums [b] else (⟨#[]⟩ : ByteArray)) := by
  unfold impl_Sent.f
  obtain ⟨v, h1, h2, h⟩ := keyOk_tells 2 b false
  refine ⟨v, h1, fun e => ?_, ?_⟩
  · rcases h e with h | h | h <;> omega
  · cases v with
    | false => exact ev_bind_of h2 (ev_neg (by simp) (Ev.now _))
    | true =>
      have hb : 1 ≤ b ∧ b ≤ 26 := by rcases h rfl with h | h | h <;> omega
      refine ev_bind_of h2 (ev_pos rfl (ev_pos rfl (ev_eq (Ev.now _) ?_)))
      rw [if_pos rfl, Int.emod_eq_of_lt (by omega) (by omega)]
theorem get_low (s : ByteArray) (h : s.size ≠ 0) (hb : bn s 0 < 128) : getv s = ((bn s 0 : Int), 1) := by
  unfold getv dcv Lib.decodeN
  rw [if_neg h, if_pos hb]; rfl
theorem get_put (s : ByteArray) (r : Int) (hr : rok r = true) (hn : (enc r).length ≤ s.size) (h : enc r = bl s (enc r).length) : getv s = (r, ((enc r).length : Int)) := by
  have hr' := rok_iff.mp hr
  obtain ⟨R, rfl⟩ : ∃ R : Nat, r = (R : Int) := ⟨r.toNat, by omega⟩
  have hs : s.size ≠ 0 := by have := enc_pos (R : Int); omega
  have fin : ∀ n, n = (enc (R : Int)).length → tellv s R n = ((R : Int), (n : Int)) := by
    intro n e
    unfold tellv
    rw [if_pos ⟨hr, by rw [e]; exact h⟩]
  unfold getv
  rw [if_neg hs]
  have b0 := bn_lt s 0
  have b1 := bn_lt s 1
  have b2 := bn_lt s 2
  have b3 := bn_lt s 3
  by_cases c1 : (R : Int) < 128
  · have e : enc (R : Int) = [(R : Int)] := by unfold enc; rw [if_pos c1]
    rw [e] at h hn fin ⊢
    have h' : [(R : Int)] = [(bn s 0 : Int)] := h
    simp only [List.cons.injEq, and_true] at h'
    have e0 : bn s 0 = R := by omega
    have t := tell1 s (by omega)
    rw [e0] at t
    rw [← t]; exact fin 1 rfl
  by_cases c2 : (R : Int) < 2048
  · have e : enc (R : Int) = [192 + (R : Int) / 64, 128 + (R : Int) % 64] := by unfold enc; rw [if_neg c1, if_pos c2]
    rw [e] at h hn fin ⊢
    have h' : [192 + (R : Int) / 64, 128 + (R : Int) % 64] = [(bn s 0 : Int), (bn s 1 : Int)] := h
    simp only [List.cons.injEq, and_true] at h'
    have e0 : bn s 0 % 32 * 64 + bn s 1 % 64 = R := by omega
    have t := tell2 s hn (by omega)
    rw [e0] at t
    rw [← t]; exact fin 2 rfl
  by_cases c3 : (R : Int) < 65536
  · have e : enc (R : Int) = [224 + (R : Int) / 4096, 128 + (R : Int) / 64 % 64, 128 + (R : Int) % 64] := by unfold enc; rw [if_neg c1, if_neg c2, if_pos c3]
    rw [e] at h hn fin ⊢
    have h' : [224 + (R : Int) / 4096, 128 + (R : Int) / 64 % 64, 128 + (R : Int) % 64] = [(bn s 0 : Int), (bn s 1 : Int), (bn s 2 : Int)] := h
    simp only [List.cons.injEq, and_true] at h'
    have e0 : (bn s 0 % 16 * 64 + bn s 1 % 64) * 64 + bn s 2 % 64 = R := by omega
    have t := tell3 s hn (by omega)
    rw [e0] at t
    rw [← t]; exact fin 3 rfl
  · have e : enc (R : Int) = [240 + (R : Int) / 262144, 128 + (R : Int) / 4096 % 64, 128 + (R : Int) / 64 % 64, 128 + (R : Int) % 64] := by unfold enc; rw [if_neg c1, if_neg c2, if_neg c3]
    rw [e] at h hn fin ⊢
    have h' : [240 + (R : Int) / 262144, 128 + (R : Int) / 4096 % 64, 128 + (R : Int) / 64 % 64, 128 + (R : Int) % 64] = [(bn s 0 : Int), (bn s 1 : Int), (bn s 2 : Int), (bn s 3 : Int)] := h
    simp only [List.cons.injEq, and_true] at h'
    have e0 : ((bn s 0 % 8 * 64 + bn s 1 % 64) * 64 + bn s 2 % 64) * 64 + bn s 3 % 64 = R := by omega
    have t := tell4 s hn (by omega)
    rw [e0] at t
    rw [← t]; exact fin 4 rfl
theorem ext_all (s : ByteArray) : s.extract 0 s.size = s := by
  apply ByteArray.ext
  rw [ByteArray.data_extract]
  exact Array.extract_size
theorem cut1 (s : ByteArray) (m : Nat) (hm : 1 + m ≤ s.size) (p : ByteArray) (h0 : bn s 0 = 27) : (s.extract 0 (1 + m)).toList = (esc ++ p).toList ↔ ((s.extract 1 s.size).extract 0 m).toList = p.toList := by
  have e1 : (esc ++ p).toList = (27 : UInt8) :: p.toList := by
    rw [Lib.toList_data, Lib.toList_data, ByteArray.data_append, Array.toList_append]; rfl
  have e2 : (s.extract 0 (1 + m)).toList = (27 : UInt8) :: ((s.extract 1 s.size).extract 0 m).toList := by
    have hr : ∀ i, i < m → bn (s.extract 1 s.size) i = bn s (i + 1) := by
      intro i hi
      have hg : ∀ (u : ByteArray) (j : Nat), u.get! j = u.data[j]! := fun u j => by cases u; rfl
      have hss : s.data.size = s.size := rfl
      unfold bn
      rw [hg, hg, ByteArray.data_extract, getElem!_pos s.data (i + 1) (by omega), getElem!_pos (s.data.extract 1 s.size) i (by rw [Array.size_extract]; omega), Array.getElem_extract]
      have : ∀ j (hj : j < s.data.size), j = i + 1 → s.data[j] = s.data[i + 1]'(by omega) := fun j hj e => by subst e; rfl
      rw [this _ _ (by omega)]
    rw [extract_toList s (1 + m) hm, extract_toList (s.extract 1 s.size) m (by rw [ext_size]; omega)]
    have hbl : bl s (1 + m) = 27 :: bl (s.extract 1 s.size) m := by
      unfold bl
      rw [Nat.add_comm 1 m, List.range_succ_eq_map, List.map_cons, List.map_map, h0]
      refine congrArg (List.cons (27 : Int)) (List.map_congr_left fun i hi => ?_)
      rw [List.mem_range] at hi
      show ((bn s (i + 1) : Nat) : Int) = _
      rw [hr i hi]
    rw [hbl]; rfl
  rw [e1, e2, List.cons.injEq]
  exact ⟨fun x => x.2, fun x => ⟨rfl, x⟩⟩
/-- Both functions tell the same key, with as many bytes as it sends, or none. -/
def Both (s : ByteArray) (gs : Nat → Option (Int × Int × Bool × Int)) (gi : Nat → Option (Int × Int × Bool × Bool)) : Prop :=
  ∃ (a b : Int) (c : Bool) (n : Nat), n ≤ s.size ∧ Ev gs (a, b, c, (n : Int)) ∧ ((n = 0 ∧ Ev gi (0, 0, false, false)) ∨ (1 ≤ n ∧ Ev gi (a, b, c, true) ∧ ∃ t : ByteArray, t.size = n ∧ Ev (fun k => impl_Sent.f k a b c) t))
theorem Both.map {s : ByteArray} {gs gs' : Nat → Option (Int × Int × Bool × Int)} {gi gi' : Nat → Option (Int × Int × Bool × Bool)} (h : Both s gs gi) (hs : ∀ v, Ev gs v → Ev gs' v) (hi : ∀ v, Ev gi v → Ev gi' v) : Both s gs' gi' := by
  obtain ⟨a, b, c, n, hn, h1, h2⟩ := h
  refine ⟨a, b, c, n, hn, hs _ h1, ?_⟩
  rcases h2 with ⟨e, h2⟩ | ⟨e, h2, t⟩
  · exact .inl ⟨e, hi _ h2⟩
  · exact .inr ⟨e, hi _ h2, t⟩
theorem l2_2 (s : ByteArray) (r : Int) (c : Bool) : Ev (fun k => impl_pressed.l2 k s r c 2) (0, 0, false, false) := by
  refine ev_succ ?_
  simp only [impl_pressed.l2]
  exact ev_neg (by omega) (Ev.now _)
theorem l2_1 (s : ByteArray) (r : Int) (c : Bool) (v2 : ByteArray) (h2 : Ev (fun k => impl_Sent.f k 2 r false) v2) :
    Ev (fun k => impl_pressed.l2 k s r c 1) (if v2.size ≠ 0 ∧ pre s v2 = true then (2, r, false, true) else (0, 0, false, false)) := by
  refine ev_succ ?_
  simp only [impl_pressed.l2, if_neg (show ¬ (1 : Int) = 0 by decide), show wrap64 (1 + 1) = 2 from w64 (by omega) (by omega)]
  refine ev_pos (by omega) (Ev.bind h2 ?_)
  by_cases e : v2.size = 0
  · exact ev_pos ((str_nil v2).mpr e) (ev_eq (l2_2 s r c) (if_neg (fun x => x.1 e)).symm)
  · refine ev_neg (fun x => e ((str_nil _).mp x)) (ev_bind_of (hasPrefix_eq s v2) ?_)
    by_cases p : pre s v2 = true
    · exact ev_pos p (ev_eq (Ev.now _) (if_pos ⟨e, p⟩).symm)
    · exact ev_neg p (ev_eq (l2_2 s r c) (if_neg (fun x => p x.2)).symm)
theorem l2_0 (s : ByteArray) (r : Int) (c : Bool) (v1 v2 : ByteArray) (h1 : Ev (fun k => impl_Sent.f k 1 r c) v1) (h2 : Ev (fun k => impl_Sent.f k 2 r false) v2) :
    Ev (fun k => impl_pressed.l2 k s r c 0) (if v1.size ≠ 0 ∧ pre s v1 = true then (1, r, c, true) else if v2.size ≠ 0 ∧ pre s v2 = true then (2, r, false, true) else (0, 0, false, false)) := by
  refine ev_succ ?_
  simp only [impl_pressed.l2, if_pos, show wrap64 (0 + 1) = 1 from w64 (by omega) (by omega)]
  refine ev_pos (by omega) (Ev.bind h1 ?_)
  by_cases e : v1.size = 0
  · exact ev_pos ((str_nil v1).mpr e) (ev_eq (l2_1 s r c v2 h2) (if_neg (fun x => x.1 e)).symm)
  · refine ev_neg (fun x => e ((str_nil _).mp x)) (ev_bind_of (hasPrefix_eq s v1) ?_)
    by_cases p : pre s v1 = true
    · exact ev_pos p (ev_eq (Ev.now _) (if_pos ⟨e, p⟩).symm)
    · exact ev_neg p (ev_eq (l2_1 s r c v2 h2) (if_neg (fun x => p x.2)).symm)
theorem getv_le (s : ByteArray) : ∃ G : Nat, (getv s).2 = (G : Int) ∧ G ≤ s.size ∧ G ≤ 4 := by
  by_cases h : s.size = 0
  · exact ⟨0, by unfold getv; rw [if_pos h]; rfl, by omega, by omega⟩
  · have := getv_bounds s h
    exact ⟨(getv s).2.toNat, by omega, by omega, by omega⟩
theorem putv_size_rok (r : Int) (h : rok r = true) : (putv r).size = (enc r).length := by
  unfold putv; rw [if_pos h, strOfNums_size]
theorem mid_same (s rest : ByteArray) (c : Bool) (n0 : Nat) (hs : s.size ≠ 0) (hl : s.size < 4611686018427387904) (hrest : rest = s.extract n0 s.size)
    (hc : (c = true ∧ n0 = 1 ∧ bn s 0 = 27) ∨ (c = false ∧ n0 = 0 ∧ bn s 0 ≠ 27))
    (hk2 : ∀ v, Ev (fun k => impl_Sent.f k 2 (getv rest).1 false) v → v.size = 0 ∨ ¬ pre s v = true) :
    Both s (fun k => spec_l13Key.j2 k s (n0 : Int) 1 0 c) (fun k => impl_pressed.l2 k s (getv rest).1 c 0) := by
  have hn0 : n0 ≤ s.size := by rcases hc with h | h <;> omega
  have hrs : rest.size = s.size - n0 := by rw [hrest, ext_size]
  obtain ⟨G, hG, hGs, hG4⟩ := getv_le rest
  obtain ⟨v1, hs1, hi1, hv1⟩ := Sent1 (getv rest).1 c
  obtain ⟨v2b, _, _, hi2⟩ := Sent2 (getv rest).1
  generalize (if v2b = true then strOfNums [(getv rest).1] else (⟨#[]⟩ : ByteArray)) = v2 at hi2
  have hk := hk2 v2 hi2
  have him := l2_0 s (getv rest).1 c v1 v2 hi1 hi2
  have hn2 : ¬ (v2.size ≠ 0 ∧ pre s v2 = true) := fun x => by rcases hk with h | h; exact x.1 h; exact h x.2
  rw [if_neg hn2] at him
  have hw : ∀ _ : Unit, wrap64 ((n0 : Int) + (getv rest).2) = ((n0 + G : Nat) : Int) := fun _ => by rw [hG, w64 (by omega) (by omega)]; omega
  -- what the given function tells
  have spec : ∀ v, Ev (fun k => if v1.toList = ([] : List UInt8) then some (0, 0, false, 0) else (if ((n0 + G : Nat) : Int) > (s.size : Int) then some (0, 0, false, 0) else (if 0 ≤ ((n0 + G : Nat) : Int) then (if ((n0 + G : Nat) : Int) ≤ (s.size : Int) then (if (s.extract 0 (n0 + G)).toList = v1.toList then some (1, (getv rest).1, c, ((n0 + G : Nat) : Int)) else some (0, 0, false, 0)) else none) else none))) v → Ev (fun k => spec_l13Key.j2 k s (n0 : Int) 1 0 c) v := by
    intro v h
    refine ev_succ ?_
    simp only [spec_l13Key.j2, Int.toNat_natCast]
    refine ev_pos (by omega) (ev_pos (by omega) ?_)
    rw [← hrest]
    refine Ev.bind (spec_Get_ev rest) (Ev.bind hs1 ?_)
    simp only [hw (), Int.toNat_natCast]
    exact h
  by_cases e : v1.size = 0
  · rw [if_neg (fun x => x.1 e)] at him
    exact ⟨0, 0, false, 0, by omega, spec _ (ev_pos ((str_nil v1).mpr e) (Ev.now _)), .inl ⟨rfl, him⟩⟩
  obtain ⟨hr, h32, hv⟩ : rok (getv rest).1 = true ∧ 32 ≤ (getv rest).1 ∧ v1 = (if c = true then esc ++ putv (getv rest).1 else putv (getv rest).1) := by
    rcases hv1 with h | h
    · exact absurd h e
    · exact h
  have hps := putv_size_rok _ hr
  have hep := enc_pos (getv rest).1
  have hvs : v1.size = n0 + (putv (getv rest).1).size := by
    rcases hc with ⟨rfl, rfl, _⟩ | ⟨rfl, rfl, _⟩
    · rw [hv, if_pos rfl, ByteArray.size_append, esc_size]
    · rw [hv, if_neg (by simp)]; omega
  have cut : ∀ m, n0 + m ≤ s.size → ((s.extract 0 (n0 + m)).toList = v1.toList ↔ (rest.extract 0 m).toList = (putv (getv rest).1).toList) := by
    intro m hm
    rcases hc with ⟨rfl, rfl, h27⟩ | ⟨rfl, rfl, _⟩
    · rw [hv, if_pos rfl, hrest]
      rw [← hrest]
      rw [cut1 s m hm _ h27, ← hrest]
    · have hv' : v1 = putv (getv rest).1 := by rw [hv, if_neg (by simp)]
      rw [hv', Nat.zero_add]
      have : rest = s := by rw [hrest, ext_all]
      rw [this]
  have hP : (rest.extract 0 G).toList = (putv (getv rest).1).toList → G = (putv (getv rest).1).size := by
    intro h
    have := congrArg List.length h
    rw [toList_length, toList_length, ByteArray.size_extract] at this
    omega
  have hpre : pre s v1 = true ↔ (rest.extract 0 G).toList = (putv (getv rest).1).toList := by
    rw [pre_iff, hvs]
    constructor
    · rintro ⟨h1, h2⟩
      have h3 := (cut _ h1).mp h2
      have h4 := (put_is rest (getv rest).1 _ (by omega) (by omega)).mp h3.symm
      rw [hps] at h4
      have h5 := get_put rest (getv rest).1 hr (by omega) h4.2
      have h6 : (getv rest).2 = ((enc (getv rest).1).length : Int) := congrArg Prod.snd h5
      have h7 : G = (putv (getv rest).1).size := by omega
      rw [h7]; exact h3
    · intro h
      have h1 := hP h
      rw [← h1]
      exact ⟨by omega, (cut G (by omega)).mpr h⟩
  by_cases p : (rest.extract 0 G).toList = (putv (getv rest).1).toList
  · have h1 := hP p
    rw [if_pos ⟨e, hpre.mpr p⟩] at him
    refine ⟨1, (getv rest).1, c, n0 + G, by omega, spec _ ?_, .inr ⟨by omega, him, v1, by omega, hi1⟩⟩
    exact ev_neg (fun x => e ((str_nil _).mp x)) (ev_neg (by omega) (ev_pos (by omega) (ev_pos (by omega) (ev_pos ((cut G (by omega)).mpr p) (Ev.now _)))))
  · rw [if_neg (fun x => p (hpre.mp x.2))] at him
    refine ⟨0, 0, false, 0, by omega, spec _ ?_, .inl ⟨rfl, him⟩⟩
    exact ev_neg (fun x => e ((str_nil _).mp x)) (ev_neg (by omega) (ev_pos (by omega) (ev_pos (by omega) (ev_neg (fun x => p ((cut G (by omega)).mp x)) (Ev.now _)))))
theorem one_pre (s : ByteArray) (b : Int) (hb : 0 ≤ b ∧ b ≤ 255) : pre s (strOfNums [b]) = true ↔ s.size ≠ 0 ∧ (bn s 0 : Int) = b := by
  have hz : (strOfNums [b]).size = 1 := by rw [strOfNums_size]; rfl
  have e : (strOfNums [b]).toList = ([b] : List Int).map fun x => UInt8.ofNat x.toNat := by rw [Lib.toList_data, strOfNums_data]
  rw [pre_iff, hz]
  constructor
  · rintro ⟨h1, h2⟩
    rw [extract_toList s 1 h1, e] at h2
    have h3 : [(bn s 0 : Int)] = [b] := bytes_inj _ _ (bl_range s 1) (by simpa using hb) h2
    simp only [List.cons.injEq, and_true] at h3
    exact ⟨by omega, h3⟩
  · rintro ⟨h1, h2⟩
    refine ⟨by omega, ?_⟩
    rw [extract_toList s 1 (by omega), e]
    have h3 : bl s 1 = [b] := by
      show [(bn s 0 : Int)] = [b]
      rw [h2]
    rw [h3]
theorem rest_same (s : ByteArray) (hs : s.size ≠ 0) (hl : s.size < 4611686018427387904) :
    Both s (fun k => if 0 < (s.size : Int) then (if (bt s 0) < 27 then ((spec_KeyOk.f 2 (wrap64 (bt s 0)) false).bind fun t466 => (if t466 = true then (some (2, wrap64 (bt s 0), false, 1)) else (spec_l13Key.j1 k s))) else (spec_l13Key.j1 k s)) else (none))
      (fun k => (strings_CutPrefix.f s (⟨#[27]⟩ : ByteArray)).bind fun c => ((impl_Get.f c.1).bind fun g => (impl_pressed.l2 k s g.1 c.2 0))) := by
  have e0 : bt s 0 = (bn s 0 : Int) := bn_bt s 0 (by omega)
  have hb := bn_lt s 0
  have e1 : ∀ _ : Unit, wrap64 (bt s 0) = (bn s 0 : Int) := fun _ => by rw [e0, w64 (by omega) (by omega)]
  simp only [e1 ()]
  rw [e0]
  by_cases h27 : bn s 0 = 27
  · have hp : pre s esc = true := (pre_esc s).mpr ⟨hs, h27⟩
    have hm := mid_same s (s.extract 1 s.size) true 1 hs hl rfl (.inl ⟨rfl, rfl, h27⟩) (fun v hv => by
      obtain ⟨t, _, ht, hi⟩ := Sent2 (getv (s.extract 1 s.size)).1
      have := ev_unique hv hi
      subst this
      cases t with
      | false => exact .inl rfl
      | true =>
        refine .inr fun x => ?_
        have h1 := ht rfl
        have := ((one_pre s _ (by omega)).mp x).2
        omega)
    refine hm.map (fun v h => ?_) (fun v h => ?_)
    · refine ev_pos (by omega) (ev_neg (by omega) (ev_succ ?_))
      simp only [spec_l13Key.j1, e0]
      exact ev_pos (by omega) (ev_pos (by omega) h)
    · refine ev_bind_of (cutPrefix_eq s) ?_
      rw [if_pos hp]
      exact ev_bind_of (impl_Get_eq _) h
  · have hp : ¬ pre s esc = true := fun x => h27 ((pre_esc s).mp x).2
    have impl : ∀ v, Ev (fun k => impl_pressed.l2 k s (getv s).1 false 0) v → Ev (fun k => (strings_CutPrefix.f s (⟨#[27]⟩ : ByteArray)).bind fun c => ((impl_Get.f c.1).bind fun g => (impl_pressed.l2 k s g.1 c.2 0))) v := by
      intro v h
      refine ev_bind_of (cutPrefix_eq s) ?_
      rw [if_neg hp]
      exact ev_bind_of (impl_Get_eq _) h
    have j1 : ∀ v, Ev (fun k => spec_l13Key.j2 k s 0 1 0 false) v → Ev (fun k => spec_l13Key.j1 k s) v := by
      intro v h
      refine ev_succ ?_
      simp only [spec_l13Key.j1, e0]
      exact ev_pos (by omega) (ev_neg (by omega) h)
    obtain ⟨t, hk, ht, hi⟩ := Sent2 (getv s).1
    by_cases hlow : bn s 0 < 27
    · have hg := get_low s hs (by omega)
      rw [hg] at hk ht hi
      cases t with
      | true =>
        rw [if_pos rfl] at hi
        have h1 := ht rfl
        refine ⟨2, (bn s 0 : Int), false, 1, by omega, ?_, .inr ⟨by omega, impl _ ?_, _, ?_, hi⟩⟩
        · exact ev_pos (by omega) (ev_pos (by omega) (ev_bind_of hk (ev_pos rfl (Ev.now _))))
        · obtain ⟨v1, _, hi1, hv1⟩ := Sent1 (getv s).1 false
          have hz : v1.size = 0 := by
            rcases hv1 with h | h
            · exact h
            · rw [hg] at h; omega
          have := l2_0 s (getv s).1 false v1 (strOfNums [(bn s 0 : Int)]) hi1 (by rw [hg]; exact hi)
          rw [if_neg (fun x => x.1 hz), if_pos ⟨by rw [strOfNums_size]; simp, (one_pre s _ (by omega)).mpr ⟨hs, rfl⟩⟩] at this
          rw [hg] at this ⊢
          exact this
        · rw [strOfNums_size]; rfl
      | false =>
        rw [if_neg (by simp)] at hi
        have hm := mid_same s s false 0 hs hl (ext_all s).symm (.inr ⟨rfl, rfl, h27⟩) (fun v hv => by
          rw [hg] at hv
          have := ev_unique hv hi
          subst this
          exact .inl rfl)
        refine hm.map (fun v h => ?_) impl
        exact ev_pos (by omega) (ev_pos (by omega) (ev_bind_of hk (ev_neg (by simp) (j1 v h))))
    · have hm := mid_same s s false 0 hs hl (ext_all s).symm (.inr ⟨rfl, rfl, h27⟩) (fun v hv => by
        have := ev_unique hv hi
        subst this
        cases t with
        | false => exact .inl rfl
        | true =>
          refine .inr fun x => ?_
          have h1 := ht rfl
          have := ((one_pre s _ (by omega)).mp x).2
          omega)
      refine hm.map (fun v h => ?_) impl
      exact ev_pos (by omega) (ev_neg (by omega) (j1 v h))
theorem loop_same (s : ByteArray) (hs : s.size ≠ 0) (hl : s.size < 4611686018427387904) : ∀ (d : Nat) (x : Int), x + d = 13 → 3 ≤ x → Both s (fun k => spec_l13Key.l0 k s x) (fun k => impl_pressed.l0 k s x) := by
  intro d
  induction d with
  | zero =>
    intro x hx h3
    refine (rest_same s hs hl).map (fun v h => ?_) (fun v h => ?_)
    · refine ev_succ ?_
      simp only [spec_l13Key.l0]
      exact ev_neg (by omega) h
    · refine ev_succ ?_
      simp only [impl_pressed.l0]
      exact ev_neg (by omega) h
  | succ d ih =>
    intro x hx h3
    have ht : 3 ≤ x ∧ x ≤ 12 := by omega
    have hz := sb_size x ht
    have hw : ∀ _ : Unit, wrap64 (x + 1) = x + 1 := fun _ => w64 (by omega) (by omega)
    by_cases p : pre s (sb x) = true
    · have h1 := (pre_iff s (sb x)).mp p
      refine ⟨x, 0, false, (sb x).size, h1.1, ev_succ ?_, .inr ⟨hz, ev_succ ?_, sb x, rfl, Sent_tens x ht⟩⟩
      · simp only [spec_l13Key.l0, Int.toNat_natCast]
        exact ev_pos (by omega) (Ev.bind (spec_tens x ht) (ev_pos (by omega) (ev_pos (by omega) (ev_pos (by omega) (ev_pos h1.2 (Ev.now _))))))
      · simp only [impl_pressed.l0]
        exact ev_pos (by omega) (ev_bind_of (impl_tens x ht) (ev_bind_of (hasPrefix_eq s _) (ev_pos p (Ev.now _))))
    · refine (ih (x + 1) (by omega) (by omega)).map (fun v h => ?_) (fun v h => ?_)
      · refine ev_succ ?_
        simp only [spec_l13Key.l0, Int.toNat_natCast, hw ()]
        refine ev_pos (by omega) (Ev.bind (spec_tens x ht) ?_)
        by_cases q : (sb x).size ≤ s.size
        · exact ev_pos (by omega) (ev_pos (by omega) (ev_pos (by omega) (ev_neg (fun y => p ((pre_iff _ _).mpr ⟨q, y⟩)) h)))
        · exact ev_neg (by omega) h
      · refine ev_succ ?_
        simp only [impl_pressed.l0, hw ()]
        exact ev_pos (by omega) (ev_bind_of (impl_tens x ht) (ev_bind_of (hasPrefix_eq s _) (ev_neg p h)))
theorem empty_pressed (s : ByteArray) (hs : s.size = 0) : ∀ (d : Nat) (x : Int), x + d = 13 → 3 ≤ x → Ev (fun k => impl_pressed.l0 k s x) (0, 0, false, false) := by
  have np : ∀ t : ByteArray, 1 ≤ t.size → ¬ pre s t = true := fun t ht x => by have := ((pre_iff s t).mp x).1; omega
  intro d
  induction d with
  | zero =>
    intro x hx h3
    refine ev_succ ?_
    simp only [impl_pressed.l0]
    refine ev_neg (by omega) (ev_bind_of (cutPrefix_eq s) ?_)
    rw [if_neg (np esc (by decide))]
    refine ev_bind_of (impl_Get_eq _) ?_
    obtain ⟨v1, _, hi1, hv1⟩ := Sent1 (getv s).1 false
    obtain ⟨t, _, ht, hi2⟩ := Sent2 (getv s).1
    have hg : getv s = (0, 0) := by unfold getv; rw [if_pos hs]
    have h1 : v1.size = 0 := by
      rcases hv1 with h | h
      · exact h
      · rw [hg] at h; omega
    have := l2_0 s (getv s).1 false v1 _ hi1 hi2
    rw [if_neg (fun x => x.1 h1), if_neg (fun x => np _ (by omega) x.2)] at this
    exact this
  | succ d ih =>
    intro x hx h3
    have ht : 3 ≤ x ∧ x ≤ 12 := by omega
    have hz := sb_size x ht
    have hw : ∀ _ : Unit, wrap64 (x + 1) = x + 1 := fun _ => w64 (by omega) (by omega)
    refine ev_succ ?_
    simp only [impl_pressed.l0, hw ()]
    exact ev_pos (by omega) (ev_bind_of (impl_tens x ht) (ev_bind_of (hasPrefix_eq s _) (ev_neg (np _ hz) (ih (x + 1) (by omega) (by omega)))))
theorem key_same (s : ByteArray) (hl : s.size < 4611686018427387904) : Both s (fun k => spec_l13Key.f k s) (fun k => impl_pressed.f k s) := by
  by_cases h : s.size = 0
  · exact ⟨0, 0, false, 0, by omega, ev_pos ((str_nil s).mpr h) (Ev.now _), .inl ⟨rfl, empty_pressed s h 10 3 rfl (by omega)⟩⟩
  · exact (loop_same s h hl 10 3 rfl (by omega)).map (fun v x => ev_neg (fun y => h ((str_nil s).mp y)) x) (fun v x => x)
theorem pressed_same : ∀ (f : Nat) (s : ByteArray) (o : List S78), s.size ≤ f → o.length + s.size < 5864062014805 → ∃ (l : List S78) (t : ByteArray), l.length ≤ o.length + s.size ∧ Ev (fun k => spec_Pressed.l0 k s o) (l, t) ∧ Ev (fun k => impl_Pressed.l0 k s o) (l, t) := by
  intro f
  induction f with
  | zero =>
    intro s o hf ho
    obtain ⟨a, b, c, n, hn, h1, h2⟩ := key_same s (by omega)
    obtain rfl : n = 0 := by omega
    refine ⟨o, s, by omega, ev_succ ?_, ev_succ ?_⟩
    · simp only [spec_Pressed.l0]
      exact Ev.bind h1 (ev_pos rfl (Ev.now _))
    · simp only [impl_Pressed.l0]
      rcases h2 with ⟨_, h2⟩ | h2
      · exact Ev.bind h2 (ev_neg (by simp) (Ev.now _))
      · omega
  | succ f ih =>
    intro s o hf ho
    obtain ⟨a, b, c, n, hn, h1, h2⟩ := key_same s (by omega)
    rcases h2 with ⟨rfl, h2⟩ | ⟨h3, h2, t, ht, h4⟩
    · refine ⟨o, s, by omega, ev_succ ?_, ev_succ ?_⟩
      · simp only [spec_Pressed.l0]
        exact Ev.bind h1 (ev_pos rfl (Ev.now _))
      · simp only [impl_Pressed.l0]
        exact Ev.bind h2 (ev_neg (by simp) (Ev.now _))
    · have hz := ext_size s n
      obtain ⟨l, u, hlu, e1, e2⟩ := ih (s.extract n s.size) (o ++ [⟨a, b, c⟩]) (by omega) (by rw [List.length_append]; simp only [List.length_cons, List.length_nil]; omega)
      rw [List.length_append] at hlu
      simp only [List.length_cons, List.length_nil] at hlu
      refine ⟨l, u, by omega, ev_succ ?_, ev_succ ?_⟩
      · simp only [spec_Pressed.l0]
        refine Ev.bind h1 ?_
        simp only [Int.toNat_natCast]
        exact ev_neg (by omega) (ev_pos (by omega) (ev_pos (by omega) (ev_pos (by omega) e1)))
      · simp only [impl_Pressed.l0, Int.toNat_natCast]
        refine Ev.bind h2 (ev_pos rfl (ev_pos (by omega) (Ev.bind h4 ?_)))
        rw [ht]
        exact ev_pos (by omega) (ev_pos (by omega) e2)

theorem rdk {l : List S78} {i : Nat} (h : i < l.length) : rd_T78 l (i : Int) = l[i] := by
  unfold rd_T78; rw [Int.toNat_natCast, List.getD_eq_getElem?_getD, List.getElem?_eq_getElem h]; rfl
theorem rdk_set (l : List S78) (i : Nat) (v : S78) (h : i < l.length) : rd_T78 (l.set i v) (i : Int) = v := by
  rw [rdk (by simpa using h), List.getElem_set_self]
def tmK (x : Int) : Bool := (Int.tmod x 3 == 0)
def mksK : Nat → Int → List S78
  | 0, _ => []
  | n + 1, a => ⟨a, a + 1, tmK (a + 2)⟩ :: mksK n (a + 3)
theorem mksK_length : ∀ (n : Nat) (a : Int), (mksK n a).length = n
  | 0, _ => rfl
  | n + 1, a => by simp [mksK, mksK_length n]
theorem mksK_get : ∀ (n : Nat) (a : Int) (i : Nat) (h : i < (mksK n a).length), (mksK n a)[i] = ⟨a + 3 * i, a + 3 * i + 1, tmK (a + 3 * i + 2)⟩
  | n + 1, a, 0, _ => by simp [mksK]
  | n + 1, a, i + 1, h => by
    simp only [mksK, List.getElem_cons_succ]
    rw [mksK_get n (a + 3) i]
    have e : a + 3 + 3 * (i : Int) = a + 3 * ((i + 1 : Nat) : Int) := by omega
    rw [e]
theorem laws_eqKeyS_ev (l : List S78) (hl : l.length < 4611686018427387904) : Ev (fun k => laws_eqKeyS.f k l l) true := by
  have go : ∀ (d i : Nat), i + d = l.length → Ev (fun k => laws_eqKeyS.l0 k l l (i : Int)) true := by
    intro d
    induction d with
    | zero =>
      intro i h
      refine ev_succ ?_
      simp only [laws_eqKeyS.l0]
      exact ev_neg (by omega) (Ev.now _)
    | succ d ih =>
      intro i h
      refine ev_succ ?_
      have e : ∀ x : S78, laws_eqKey.f x.f0 x.f1 x.f2 x.f0 x.f1 x.f2 = some true := fun x => by simp [laws_eqKey.f]
      simp only [laws_eqKeyS.l0, w64 (x := (i : Int) + 1) (by omega) (by omega), e, Option.bind_some]
      exact ev_pos (by omega) (ev_pos (by omega) (ev_pos (by omega) (ev_pos (by first | rfl | trivial) (ih (i + 1) (by omega)))))
  unfold laws_eqKeyS.f
  exact ev_pos rfl (go l.length 0 (by omega))
theorem laws_markKeyS_ev (l : List S78) (hl : l.length ≤ 1048576) : Ev (fun k => laws_markKeyS.f k l 1) (1 + 3 * (l.length : Int), mksK l.length 1) := by
  have go : ∀ (d i : Nat) (m : List S78) (a : Int), 0 ≤ a → a + 3 * d < 9007199254740992 → i + d = l.length → m.length = l.length → Ev (fun k => laws_markKeyS.l0 k m a (i : Int)) (a + 3 * d, m.take i ++ mksK d a) := by
    intro d
    induction d with
    | zero =>
      intro i m a h0 h1 h hm
      refine ev_succ ?_
      simp only [laws_markKeyS.l0]
      refine ev_neg (by omega) (ev_eq (Ev.now _) ?_)
      rw [List.take_of_length_le (by omega)]
      simp [mksK]
    | succ d ih =>
      intro i m a h0 h1 h hm
      have w1 : ∀ _ : Unit, wrap64 (a + 1) = a + 1 := fun _ => w64 (by omega) (by omega)
      have w2 : ∀ _ : Unit, wrap64 (a + 1 + 1) = a + 2 := fun _ => by rw [w64 (by omega) (by omega)]; omega
      have w3 : ∀ _ : Unit, wrap64 (a + 2 + 1) = a + 3 := fun _ => by rw [w64 (by omega) (by omega)]; omega
      have wi : ∀ _ : Unit, wrap64 ((i : Int) + 1) = ((i + 1 : Nat) : Int) := fun _ => by rw [w64 (by omega) (by omega)]; omega
      refine ev_succ ?_
      simp only [laws_markKeyS.l0, w1 (), w2 (), w3 (), wi (), Int.toNat_natCast]
      refine ev_pos (by omega) (ev_pos (by omega) (ev_bind_some (ev_bind_some ?_)))
      rw [rdk_set _ _ _ (by first | omega | (rw [List.length_set]; omega)), List.set_set, rdk_set _ _ _ (by first | omega | (rw [List.length_set]; omega)), List.set_set]
      have := ih (i + 1) (m.set i ⟨a, a + 1, tmK (a + 2)⟩) (a + 3) (by omega) (by omega) (by omega) (by simpa using hm)
      refine ev_eq this ?_
      rw [take_set_succ _ _ _ (by omega), List.append_assoc, List.singleton_append]
      have e : a + 3 + 3 * (d : Int) = a + 3 * ((d + 1 : Nat) : Int) := by omega
      rw [e]; rfl
  unfold laws_markKeyS.f
  have := go l.length 0 l 1 (by omega) (by omega) (by omega) rfl
  simpa using this
theorem laws_heldKeyS_ev (n : Nat) (hn : n ≤ 1048576) : Ev (fun k => laws_heldKeyS.f k (mksK n 1) 1) (1 + 3 * (n : Int)) := by
  have go : ∀ (d i : Nat), i + d = n → Ev (fun k => laws_heldKeyS.l0 k (mksK n 1) (1 + 3 * (i : Int)) (i : Int)) (1 + 3 * (n : Int)) := by
    intro d
    induction d with
    | zero =>
      intro i h
      obtain rfl : i = n := by omega
      refine ev_succ ?_
      simp only [laws_heldKeyS.l0]
      exact ev_neg (by rw [mksK_length]; omega) (Ev.now _)
    | succ d ih =>
      intro i h
      have hr : rd_T78 (mksK n 1) (i : Int) = ⟨1 + 3 * i, 1 + 3 * i + 1, tmK (1 + 3 * i + 2)⟩ := by rw [rdk (by rw [mksK_length]; omega), mksK_get]
      have w1 : ∀ _ : Unit, wrap64 (1 + 3 * (i : Int) + 1) = 1 + 3 * i + 1 := fun _ => w64 (by omega) (by omega)
      have w2 : ∀ _ : Unit, wrap64 (1 + 3 * (i : Int) + 1 + 1) = 1 + 3 * i + 2 := fun _ => by rw [w64 (by omega) (by omega)]; omega
      have w3 : ∀ _ : Unit, wrap64 (1 + 3 * (i : Int) + 2 + 1) = 1 + 3 * ((i + 1 : Nat) : Int) := fun _ => by rw [w64 (by omega) (by omega)]; omega
      have wi : ∀ _ : Unit, wrap64 ((i : Int) + 1) = ((i + 1 : Nat) : Int) := fun _ => by rw [w64 (by omega) (by omega)]; omega
      refine ev_succ ?_
      simp only [laws_heldKeyS.l0, hr, w1 (), w2 (), w3 (), wi ()]
      exact ev_pos (by rw [mksK_length]; omega) (ev_pos (by omega) (ev_pos (by trivial) (ev_pos (by trivial) (ev_neg (by simp [tmK]) (ih (i + 1) (by omega))))))
  unfold laws_heldKeyS.f
  exact go n 0 (by omega)

theorem FnExactPressed : laws_FnExactPressed.Pure := by
  intro s hs
  refine Ev.rounds ?_
  unfold laws_FnExactPressed.f
  by_cases h1 : (s.size : Int) > 1048576
  · exact ev_pos h1 (Ev.now _)
  refine ev_neg h1 ?_
  obtain ⟨l, t, hl, e1, e2⟩ := pressed_same s.size s [] (by omega) (by simp only [List.length_nil]; omega)
  simp only [List.length_nil] at hl
  have he := laws_eqKeyS_ev l (by omega)
  have hm := laws_markKeyS_ev l (by omega)
  have hh := laws_heldKeyS_ev l.length (by omega)
  have e1' : Ev (fun k => spec_Pressed.f k s) (l, t) := e1
  have e2' : Ev (fun k => impl_Pressed.f k s) (l, t) := e2
  have hb : (t.toList != t.toList) = false := bne_eq_false_iff_eq.mpr rfl
  refine Ev.bind e1' (Ev.bind e2' (Ev.bind he (ev_pos rfl ?_)))
  rw [hb]
  refine ev_succ ?_
  simp only [laws_FnExactPressed.j0]
  refine ev_neg (by simp) (Ev.bind hm (Ev.bind hh (ev_neg (by omega) (ev_pos rfl (Ev.bind e2' (Ev.bind he (ev_pos rfl ?_)))))))
  rw [hb]
  refine ev_succ ?_
  simp only [laws_FnExactPressed.j1]
  exact ev_neg (by simp) (Ev.bind hh (ev_neg (by omega) (ev_pos rfl (Ev.now _))))

end Go.Proofs.YtkljnfinjacejaaDoor.Pure
