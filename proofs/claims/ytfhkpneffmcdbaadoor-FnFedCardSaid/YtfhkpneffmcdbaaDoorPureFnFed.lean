/- The law FnFed answers true at every code: fed byte by byte, a text's runes are told; a feeder that is no feeder is told nothing. -/
import Derived.Test.YtfhkpneffmcdbaaDoorQBx20
namespace Go.Proofs.YtfhkpneffmcdbaaDoor.Pure
open Go.RowKit Go.Proofs.YtfhkpneffmcdbaaDoor.QB Go.Proofs.YtfhkpneffmcdbaaDoorW.PrintWords Go.Proofs.YtfhkpneffmcdbaaDoorW.PrintLast
set_option linter.unusedVariables false
set_option linter.unusedSimpArgs false

theorem w64 {x : Int} (h0 : -9223372036854775808 ≤ x) (h1 : x ≤ 9223372036854775807) : wrap64 x = x := by unfold wrap64; omega
theorem wf64 {x : Int} : (Lit.int .i64 x).wf = true ↔ -9223372036854775808 ≤ x ∧ x ≤ 9223372036854775807 := by
  simp [Lit.wf, IntKind.min, IntKind.max, IntKind.signed, IntKind.bits]
theorem wf8 {x : Int} : (Lit.int .u8 x).wf = true ↔ 0 ≤ x ∧ x ≤ 255 := by
  simp [Lit.wf, IntKind.min, IntKind.max, IntKind.signed, IntKind.bits]
theorem ev_succ {α : Type} {g : Nat → Option α} {r : α} (h : Ev (fun k => g (k + 1)) r) : Ev g r := by
  obtain ⟨K, h⟩ := h
  refine ⟨K + 1, fun k hk => ?_⟩
  obtain ⟨m, rfl⟩ : ∃ m, k = m + 1 := ⟨k - 1, by omega⟩
  exact h m (by omega)
theorem ev_fixed {α : Type} {x : Option α} {r : α} (h : x = some r) : Ev (fun _ => x) r := ⟨0, fun _ _ => h⟩
theorem ev_eq {α : Type} {g : Nat → Option α} {r s : α} (h : Ev g r) (e : r = s) : Ev g s := e ▸ h
/-- Never keep an equation 'wrap64 .. = ..' in the context where omega runs: it compares them by unfolding. -/
theorem wN {x : Int} {n : Nat} (e : x = (n : Int)) (h : n < 4611686018427387904) : wrap64 x = (n : Int) := by rw [e]; exact w64 (by omega) (by omega)

theorem ev_pos {α : Type} {c : Prop} [Decidable c] {a b : Nat → Option α} {r : α} (hc : c) (h : Ev a r) : Ev (fun k => if c then a k else b k) r := by
  obtain ⟨K, h⟩ := h
  exact ⟨K, fun k hk => by show (if c then a k else b k) = some r; rw [if_pos hc]; exact h k hk⟩
theorem ev_neg {α : Type} {c : Prop} [Decidable c] {a b : Nat → Option α} {r : α} (hc : ¬ c) (h : Ev b r) : Ev (fun k => if c then a k else b k) r := by
  obtain ⟨K, h⟩ := h
  exact ⟨K, fun k hk => by show (if c then a k else b k) = some r; rw [if_neg hc]; exact h k hk⟩
theorem ev_bind_some {α β : Type} {a : α} {f : Nat → α → Option β} {r : β} (h : Ev (fun k => f k a) r) : Ev (fun k => (some a).bind (f k)) r := h
theorem ev_bind_of {α β : Type} {x : Option α} {a : α} {f : Nat → α → Option β} {r : β} (hx : x = some a) (h : Ev (fun k => f k a) r) : Ev (fun k => x.bind (f k)) r := by
  subst hx; exact h

def rok (r : Int) : Bool := decide (0 ≤ r) && decide (r ≤ 1114111) && !(decide (55296 ≤ r) && decide (r ≤ 57343))
theorem rok_iff {r : Int} : rok r = true ↔ 0 ≤ r ∧ r ≤ 1114111 ∧ ¬ (55296 ≤ r ∧ r ≤ 57343) := by
  simp [rok]; omega

def enc (r : Int) : List Int :=
  if r < 128 then [r] else if r < 2048 then [192 + r / 64, 128 + r % 64]
  else if r < 65536 then [224 + r / 4096, 128 + r / 64 % 64, 128 + r % 64]
  else [240 + r / 262144, 128 + r / 4096 % 64, 128 + r / 64 % 64, 128 + r % 64]
theorem enc_length (r : Int) : (enc r).length ≤ 4 := by
  unfold enc
  repeat' split
  all_goals simp
theorem enc_pos (r : Int) : 0 < (enc r).length := by
  unfold enc
  repeat' split
  all_goals simp
theorem enc_byte {r : Int} (h : rok r = true) : ∀ x ∈ enc r, 0 ≤ x ∧ x ≤ 255 := by
  rw [rok_iff] at h
  unfold enc
  repeat' split
  all_goals (intro x hx; simp only [List.mem_cons, List.not_mem_nil, or_false] at hx; omega)

def bn (s : ByteArray) (i : Nat) : Nat := (s.get! i).toNat
theorem bn_lt (s : ByteArray) (i : Nat) : bn s i < 256 := UInt8.toNat_lt _
theorem bn_get (s : ByteArray) (i : Nat) (h : i < s.size) : s[i] = s.get! i := (Utf8W.get!_of_lt s i h).symm
theorem bn_bt (s : ByteArray) (i : Nat) (h : i < s.size) : bt s (i : Int) = (bn s i : Int) := by
  unfold bt bn
  have e : (i : Int).toNat = i := Int.toNat_natCast i
  rw [dif_pos (by rw [e]; exact h)]
  congr 2
  have : ∀ j (hj : j < s.size), j = i → s[j] = s.get! i := fun j hj e => by subst e; exact bn_get s j hj
  exact this _ _ e
theorem str_nil (s : ByteArray) : s.toList = [] ↔ s.size = 0 := by
  rw [Lib.toList_data]
  constructor
  · intro h
    have := congrArg List.length h
    simpa using this
  · intro h
    exact List.eq_nil_of_length_eq_zero (by simpa using h)
def dcv (s : ByteArray) : Nat × Nat := Lib.decodeN s.size (bn s 0) (bn s 1) (bn s 2) (bn s 3)
def getv (s : ByteArray) : Int × Int := if s.size = 0 then (0, 0) else (((dcv s).1 : Int), ((dcv s).2 : Int))
theorem decodeN_rune (n b0 b1 b2 b3 : Nat) : (Lib.decodeN n b0 b1 b2 b3).1 ≤ 1114111 := by
  unfold Lib.decodeN
  repeat' split
  all_goals (simp only; omega)
theorem decodeN_width (n b0 b1 b2 b3 : Nat) (hn : 1 ≤ n) : 1 ≤ (Lib.decodeN n b0 b1 b2 b3).2 ∧ (Lib.decodeN n b0 b1 b2 b3).2 ≤ n ∧ (Lib.decodeN n b0 b1 b2 b3).2 ≤ 4 := by
  unfold Lib.decodeN
  repeat' split
  all_goals (simp only; omega)
theorem dcv_bounds (s : ByteArray) (h : s.size ≠ 0) : (dcv s).1 ≤ 1114111 ∧ 1 ≤ (dcv s).2 ∧ (dcv s).2 ≤ s.size ∧ (dcv s).2 ≤ 4 :=
  ⟨decodeN_rune _ _ _ _ _, decodeN_width _ _ _ _ _ (by omega)⟩
theorem decodeGo_dcv (s : ByteArray) (h : s.size ≠ 0) : Lib.decodeGo s = dcv s := by
  unfold Lib.decodeGo dcv bn
  rw [if_neg h, Lib.decode_at, Nat.sub_zero, Nat.zero_add, Nat.zero_add, Nat.zero_add]
theorem impl_Get_eq (s : ByteArray) : impl_Get.f s = some (getv s) := by
  unfold impl_Get.f getv
  by_cases h : s.size = 0
  · rw [if_pos ((str_nil s).mpr h), if_pos h]
  · rw [if_neg (fun x => h ((str_nil s).mp x)), if_neg h]
    unfold utf8_DecodeRuneInString.f
    have := (dcv_bounds s h).1
    simp only [Option.bind_some, decodeGo_dcv s h, w64 (x := ((dcv s).1 : Int)) (by omega) (by omega)]
theorem getv_bounds (s : ByteArray) (h : s.size ≠ 0) : 0 ≤ (getv s).1 ∧ (getv s).1 ≤ 1114111 ∧ 1 ≤ (getv s).2 ∧ (getv s).2 ≤ s.size ∧ (getv s).2 ≤ 4 := by
  unfold getv
  rw [if_neg h]
  have := dcv_bounds s h
  simp only
  omega
theorem ext_size (s : ByteArray) (a : Nat) : (s.extract a s.size).size = s.size - a := by
  rw [ByteArray.size_extract]; omega

/-- Does a text begin with a whole rune, or with what is none? -/
def fullv (s : ByteArray) : Bool := (utf8_FullRuneInString.f s).getD false
theorem full_eq (s : ByteArray) : utf8_FullRuneInString.f s = some (fullv s) := rfl
theorem width2 (n b0 b1 b2 b3 : Nat) (h0 : b0 / 32 = 6) (hn : 1 < n) : (Lib.decodeN n b0 b1 b2 b3).2 = 2 ↔ (b1 / 64 = 2 ∧ b0 % 32 * 64 + b1 % 64 ≥ 128) := by
  unfold Lib.decodeN
  rw [if_neg (show ¬ b0 < 128 by omega)]
  by_cases q : b1 / 64 = 2
  · rw [if_pos ⟨h0, hn, q⟩]
    by_cases q2 : b0 % 32 * 64 + b1 % 64 ≥ 128
    · rw [if_pos q2]; simp [q, q2]
    · rw [if_neg q2]; simp [q2]
  · rw [if_neg (by omega), if_neg (by omega), if_neg (by omega)]; simp [q]
theorem width3 (n b0 b1 b2 b3 : Nat) (h0 : b0 / 16 = 14) (hn : 2 < n) : (Lib.decodeN n b0 b1 b2 b3).2 = 3 ↔ (b1 / 64 = 2 ∧ b2 / 64 = 2 ∧ b0 % 16 * 4096 + b1 % 64 * 64 + b2 % 64 ≥ 2048 ∧ (b0 % 16 * 4096 + b1 % 64 * 64 + b2 % 64 < 55296 ∨ 57344 ≤ b0 % 16 * 4096 + b1 % 64 * 64 + b2 % 64)) := by
  unfold Lib.decodeN
  rw [if_neg (show ¬ b0 < 128 by omega), if_neg (by omega)]
  by_cases q : b1 / 64 = 2 ∧ b2 / 64 = 2
  · rw [if_pos ⟨h0, ⟨by omega, q.1⟩, hn, q.2⟩]
    by_cases q2 : b0 % 16 * 4096 + b1 % 64 * 64 + b2 % 64 ≥ 2048 ∧ (b0 % 16 * 4096 + b1 % 64 * 64 + b2 % 64 < 55296 ∨ 57344 ≤ b0 % 16 * 4096 + b1 % 64 * 64 + b2 % 64 ∧ b0 % 16 * 4096 + b1 % 64 * 64 + b2 % 64 ≤ 1114111)
    · rw [if_pos q2]; simp only [true_iff]; omega
    · rw [if_neg q2]; simp only [show (1 : Nat) ≠ 3 by omega, false_iff]; omega
  · rw [if_neg (by omega), if_neg (by omega)]; simp only [show (1 : Nat) ≠ 3 by omega, false_iff]; omega
theorem width4 (n b0 b1 b2 b3 : Nat) (h0 : b0 / 8 = 30) (hn : 3 < n) : (Lib.decodeN n b0 b1 b2 b3).2 = 4 ↔ (b1 / 64 = 2 ∧ b2 / 64 = 2 ∧ b3 / 64 = 2 ∧ b0 % 8 * 262144 + b1 % 64 * 4096 + b2 % 64 * 64 + b3 % 64 ≥ 65536 ∧ b0 % 8 * 262144 + b1 % 64 * 4096 + b2 % 64 * 64 + b3 % 64 ≤ 1114111) := by
  unfold Lib.decodeN
  rw [if_neg (show ¬ b0 < 128 by omega), if_neg (by omega), if_neg (by omega)]
  by_cases q : b1 / 64 = 2 ∧ b2 / 64 = 2 ∧ b3 / 64 = 2
  · rw [if_pos ⟨h0, ⟨by omega, q.1⟩, ⟨by omega, q.2.1⟩, hn, q.2.2⟩]
    by_cases q2 : b0 % 8 * 262144 + b1 % 64 * 4096 + b2 % 64 * 64 + b3 % 64 ≥ 65536 ∧ (b0 % 8 * 262144 + b1 % 64 * 4096 + b2 % 64 * 64 + b3 % 64 < 55296 ∨ 57344 ≤ b0 % 8 * 262144 + b1 % 64 * 4096 + b2 % 64 * 64 + b3 % 64 ∧ b0 % 8 * 262144 + b1 % 64 * 4096 + b2 % 64 * 64 + b3 % 64 ≤ 1114111)
    · rw [if_pos q2]; simp only [true_iff]; omega
    · rw [if_neg q2]; simp only [show (1 : Nat) ≠ 4 by omega, false_iff]; omega
  · rw [if_neg (by omega)]; simp only [show (1 : Nat) ≠ 4 by omega, false_iff]; omega

theorem spec_l1In_eq (a b c : Int) : spec_l1In.f a b c = some (decide (b ≤ a) && decide (a ≤ c)) := by
  unfold spec_l1In.f
  by_cases h : a ≥ b
  · rw [if_pos h]; simp [h]
  · rw [if_neg h]; simp [show ¬ b ≤ a from h]

theorem spec_RuneOk_eq (r : Int) : spec_RuneOk.f r = some (rok r) := by
  simp only [spec_RuneOk.f, spec_l1In_eq, Option.bind_some, rok]
  by_cases h : (decide (0 ≤ r) && decide (r ≤ 1114111)) = true
  · rw [if_pos h, h, Bool.true_and]
  · rw [if_neg h, Bool.eq_false_iff.mpr h, Bool.false_and]

theorem spec_l1Put_eq {r : Int} (h : rok r = true) : spec_l1Put.f r = some (enc r) := by
  rw [rok_iff] at h
  have t64 : Int.tdiv r 64 = r / 64 := Int.tdiv_eq_ediv_of_nonneg h.1
  have t4096 : Int.tdiv r 4096 = r / 4096 := Int.tdiv_eq_ediv_of_nonneg h.1
  have t262144 : Int.tdiv r 262144 = r / 262144 := Int.tdiv_eq_ediv_of_nonneg h.1
  have m64 : Int.tmod r 64 = r % 64 := Int.tmod_eq_emod_of_nonneg h.1
  have w1 : wrap64 (r / 64) = r / 64 := w64 (by omega) (by omega)
  have w2 : wrap64 (r / 4096) = r / 4096 := w64 (by omega) (by omega)
  have w3 : wrap64 (r / 262144) = r / 262144 := w64 (by omega) (by omega)
  have m1 : Int.tmod (r / 64) 64 = r / 64 % 64 := Int.tmod_eq_emod_of_nonneg (by omega)
  have m2 : Int.tmod (r / 4096) 64 = r / 4096 % 64 := Int.tmod_eq_emod_of_nonneg (by omega)
  unfold spec_l1Put.f enc
  simp only [t64, t4096, t262144, m64, w1, w2, w3, m1, m2]
  repeat' split
  · rw [show r % 256 = r by omega]
  · rw [w64 (by omega) (by omega), w64 (by omega) (by omega), show (192 + r / 64) % 256 = 192 + r / 64 by omega, show (128 + r % 64) % 256 = 128 + r % 64 by omega]
  · rw [w64 (x := 224 + r / 4096) (by omega) (by omega), w64 (x := 128 + r / 64 % 64) (by omega) (by omega), w64 (x := 128 + r % 64) (by omega) (by omega), show (224 + r / 4096) % 256 = 224 + r / 4096 by omega,
      show (128 + r / 64 % 64) % 256 = 128 + r / 64 % 64 by omega, show (128 + r % 64) % 256 = 128 + r % 64 by omega]
  · rw [w64 (x := 240 + r / 262144) (by omega) (by omega), w64 (x := 128 + r / 4096 % 64) (by omega) (by omega), w64 (x := 128 + r / 64 % 64) (by omega) (by omega), w64 (x := 128 + r % 64) (by omega) (by omega), show (240 + r / 262144) % 256 = 240 + r / 262144 by omega,
      show (128 + r / 4096 % 64) % 256 = 128 + r / 4096 % 64 by omega, show (128 + r / 64 % 64) % 256 = 128 + r / 64 % 64 by omega, show (128 + r % 64) % 256 = 128 + r % 64 by omega]

def putv (r : Int) : ByteArray := if rok r then strOfNums (enc r) else ⟨#[]⟩

theorem spec_Put_eq (r : Int) : spec_Put.f r = some (putv r) := by
  unfold spec_Put.f putv
  rw [spec_RuneOk_eq]
  simp only [Option.bind_some]
  split
  · rename_i h; rw [spec_l1Put_eq h]; rfl
  · rfl

/-- The first n bytes, as numbers. -/
def bl (s : ByteArray) (n : Nat) : List Int := (List.range n).map fun i => (bn s i : Int)
theorem extract_toList (s : ByteArray) (n : Nat) (h : n ≤ s.size) : (s.extract 0 n).toList = (bl s n).map fun x => UInt8.ofNat x.toNat := by
  rw [Lib.toList_data, ByteArray.data_extract, Array.toList_extract]
  refine List.ext_getElem ?_ fun i h1 h2 => ?_
  · have : s.data.toList.length = s.size := by rw [Array.length_toList]; rfl
    simp [bl]; omega
  · have hi : i < s.size := by simp [bl] at h2; omega
    simp only [bl, List.map_map, List.getElem_map, List.getElem_range, Function.comp, Int.toNat_natCast, List.getElem_take, List.getElem_drop, Array.getElem_toList, Nat.zero_add]
    have : s[i] = s.get! i := bn_get s i hi
    unfold bn
    rw [← this, UInt8.ofNat_toNat]
    rfl
theorem ofNat_inj {x y : Int} (hx : 0 ≤ x ∧ x ≤ 255) (hy : 0 ≤ y ∧ y ≤ 255) (h : UInt8.ofNat x.toNat = UInt8.ofNat y.toNat) : x = y := by
  have := congrArg UInt8.toNat h
  simp only [UInt8.toNat_ofNat'] at this
  omega
theorem bytes_inj : ∀ (l m : List Int), (∀ x ∈ l, 0 ≤ x ∧ x ≤ 255) → (∀ x ∈ m, 0 ≤ x ∧ x ≤ 255) → (l.map fun x => UInt8.ofNat x.toNat) = (m.map fun x => UInt8.ofNat x.toNat) → l = m
  | [], [], _, _, _ => rfl
  | [], y :: m, _, _, h => by simp at h
  | x :: l, [], _, _, h => by simp at h
  | x :: l, y :: m, hl, hm, h => by
    simp only [List.map_cons, List.cons.injEq] at h
    rw [ofNat_inj (hl x (by simp)) (hm y (by simp)) h.1, bytes_inj l m (fun z hz => hl z (by simp [hz])) (fun z hz => hm z (by simp [hz])) h.2]
theorem bl_range (s : ByteArray) (n : Nat) : ∀ x ∈ bl s n, 0 ≤ x ∧ x ≤ 255 := by
  intro x hx
  simp only [bl, List.mem_map, List.mem_range] at hx
  obtain ⟨i, _, rfl⟩ := hx
  have := bn_lt s i
  omega
theorem put_is (s : ByteArray) (r : Int) (n : Nat) (h : n ≤ s.size) (h1 : 1 ≤ n) : (putv r).toList = (s.extract 0 n).toList ↔ (rok r = true ∧ enc r = bl s n) := by
  rw [extract_toList s n h]
  unfold putv
  by_cases hr : rok r = true
  · rw [if_pos hr, Lib.toList_data, strOfNums_data]
    exact ⟨fun e => ⟨hr, bytes_inj _ _ (enc_byte hr) (bl_range s n) e⟩, fun e => by rw [e.2]⟩
  · rw [if_neg hr]
    constructor
    · intro e
      have := congrArg List.length e
      simp [bl, Lib.toList_data] at this
      omega
    · intro e; exact absurd e.1 hr
def longv (b : Nat) : Nat := if b < 128 then 1 else if 192 ≤ b ∧ b < 224 then 2 else if 224 ≤ b ∧ b < 240 then 3 else if 240 ≤ b ∧ b < 248 then 4 else 0
theorem spec_l1Long_ev (b : Nat) : Ev (fun k => spec_l1Long.f k (b : Int)) (longv b : Int) := by
  have j1 : ∀ c : Bool, c = decide (224 ≤ b ∧ b < 240) → Ev (fun k => spec_l1Long.j1 k (b : Int) c) (if 224 ≤ b ∧ b < 240 then 3 else if 240 ≤ b ∧ b < 248 then 4 else 0 : Int) := by
    intro c hc
    refine ev_succ ?_
    simp only [spec_l1Long.j1]
    by_cases h : 224 ≤ b ∧ b < 240
    · rw [decide_eq_true h] at hc; exact ev_pos hc (ev_eq (Ev.now _) (if_pos h).symm)
    · rw [decide_eq_false h] at hc
      refine ev_neg (by rw [hc]; simp) (ev_eq (r := if 240 ≤ b ∧ b < 248 then 4 else 0) ?_ (if_neg h).symm)
      by_cases q : (b : Int) ≥ 240
      · refine ev_pos q ?_
        by_cases q2 : (b : Int) < 248
        · exact ev_pos q2 (ev_eq (Ev.now _) (if_pos (by omega)).symm)
        · exact ev_neg q2 (ev_eq (Ev.now _) (if_neg (by omega)).symm)
      · exact ev_neg q (ev_eq (Ev.now _) (if_neg (by omega)).symm)
  have j0 : ∀ c : Bool, c = decide (192 ≤ b ∧ b < 224) → Ev (fun k => spec_l1Long.j0 k (b : Int) c) (if 192 ≤ b ∧ b < 224 then 2 else if 224 ≤ b ∧ b < 240 then 3 else if 240 ≤ b ∧ b < 248 then 4 else 0 : Int) := by
    intro c hc
    refine ev_succ ?_
    simp only [spec_l1Long.j0]
    by_cases h : 192 ≤ b ∧ b < 224
    · rw [decide_eq_true h] at hc; exact ev_pos hc (ev_eq (Ev.now _) (if_pos h).symm)
    · rw [decide_eq_false h] at hc
      refine ev_neg (by rw [hc]; simp) (ev_eq (r := if 224 ≤ b ∧ b < 240 then 3 else if 240 ≤ b ∧ b < 248 then 4 else 0) ?_ (if_neg h).symm)
      by_cases q : (b : Int) ≥ 224
      · exact ev_pos q (j1 _ (decide_eq_decide.mpr (by omega)))
      · exact ev_neg q (j1 _ (decide_eq_false (by omega)).symm)
  unfold spec_l1Long.f
  have hv : (longv b : Int) = if b < 128 then 1 else (if 192 ≤ b ∧ b < 224 then 2 else if 224 ≤ b ∧ b < 240 then 3 else if 240 ≤ b ∧ b < 248 then 4 else 0 : Int) := by
    unfold longv; split
    · rfl
    · split
      · rfl
      · split
        · rfl
        · split <;> rfl
  by_cases h : (b : Int) < 128
  · exact ev_pos h (ev_eq (Ev.now _) (by rw [hv, if_pos (by omega)]))
  · refine ev_neg h (ev_eq (r := (if 192 ≤ b ∧ b < 224 then 2 else if 224 ≤ b ∧ b < 240 then 3 else if 240 ≤ b ∧ b < 248 then 4 else 0 : Int)) ?_ (by rw [hv]; exact (if_neg (by omega)).symm))
    by_cases q : (b : Int) ≥ 192
    · exact ev_pos q (j0 _ (decide_eq_decide.mpr (by omega)))
    · exact ev_neg q (j0 _ (decide_eq_false (by omega)).symm)
/-- What is told behind the bytes. -/
def tellv (s : ByteArray) (r n : Nat) : Int × Int := if rok (r : Int) = true ∧ enc (r : Int) = bl s n then ((r : Int), (n : Int)) else (65533, 1)
theorem get_end (s : ByteArray) (r n : Nat) (hn : n ≤ s.size) (h1 : 1 ≤ n) : Ev (fun k => spec_Get.l0 k s (n : Int) (r : Int) (n : Int)) (tellv s r n) := by
  refine ev_succ ?_
  simp only [spec_Get.l0, spec_Put_eq, Option.bind_some, Int.toNat_natCast]
  refine ev_neg (by omega) (ev_pos (by omega) (ev_pos (by omega) ?_))
  unfold tellv
  by_cases h : (putv (r : Int)).toList = (s.extract 0 n).toList
  · exact ev_pos h (ev_eq (Ev.now _) (if_pos ((put_is s _ n hn h1).mp h)).symm)
  · exact ev_neg h (ev_eq (Ev.now _) (if_neg (fun x => h ((put_is s _ n hn h1).mpr x))).symm)
theorem get_step (s : ByteArray) (r n i : Nat) (hi : i < n) (hn : n ≤ s.size) (hn4 : n ≤ 4) (hr : r < 1073741824) {v : Int × Int} (h : Ev (fun k => spec_Get.l0 k s (n : Int) ((r * 64 + bn s i % 64 : Nat) : Int) ((i + 1 : Nat) : Int)) v) :
    Ev (fun k => spec_Get.l0 k s (n : Int) (r : Int) (i : Int)) v := by
  have hb := bn_lt s i
  have e1 : ∀ _ : Unit, wrap64 (wrap64 ((r : Int) * 64) + wrap64 (Int.tmod (bt s (i : Int)) 64)) = ((r * 64 + bn s i % 64 : Nat) : Int) := fun _ => by
    rw [bn_bt s i (by omega), Int.tmod_eq_emod_of_nonneg (by omega), w64 (x := (r : Int) * 64) (by omega) (by omega), w64 (x := ((bn s i : Nat) : Int) % 64) (by omega) (by omega), w64 (by omega) (by omega)]
    omega
  refine ev_succ ?_
  simp only [spec_Get.l0, e1 (), show wrap64 ((i : Int) + 1) = ((i + 1 : Nat) : Int) by rw [w64 (by omega) (by omega)]; omega]
  exact ev_pos (by omega) (ev_pos (by omega) (ev_pos (by omega) h))
theorem get_j0 (s : ByteArray) (n m r : Nat) (hs : 0 < s.size) (hn : 1 < n) (hn4 : n ≤ 4) (hm : shl .i64 1 (IntKind.u64.wrap (wrap64 (7 - (n : Int)))) = (m : Int)) (hm0 : 0 < m) (hw : 0 ≤ IntKind.u64.wrap (wrap64 (7 - (n : Int)))) (hr : r = bn s 0 % m) {v : Int × Int}
    (h : Ev (fun k => spec_Get.l0 k s (n : Int) (r : Int) 1) v) : Ev (fun k => spec_Get.j0 k s (n : Int) false) v := by
  have hb := bn_lt s 0
  have e0 : ∀ _ : Unit, Int.tmod (wrap64 (bt s 0)) (m : Int) = (r : Int) := fun _ => by
    have := bn_bt s 0 hs
    rw [show ((0 : Nat) : Int) = 0 from rfl] at this
    rw [this, w64 (by omega) (by omega), Int.tmod_eq_emod_of_nonneg (by omega), hr]; omega
  refine ev_succ ?_
  simp only [spec_Get.j0, hm, e0 ()]
  refine ev_neg (by simp) (ev_pos (by omega) (ev_pos (by omega) (ev_pos hw (ev_neg (by omega) (ev_succ ?_)))))
  simp only [spec_Get.j1]
  exact h
theorem tell1 (s : ByteArray) (h : bn s 0 < 128) : tellv s (bn s 0) 1 = (((dcv s).1 : Int), ((dcv s).2 : Int)) := by
  have hd : dcv s = (bn s 0, 1) := by unfold dcv Lib.decodeN; rw [if_pos h]
  have hc : rok ((bn s 0 : Nat) : Int) = true ∧ enc ((bn s 0 : Nat) : Int) = bl s 1 := by
    refine ⟨rok_iff.mpr (by omega), ?_⟩
    unfold enc; rw [if_pos (by omega)]; rfl
  unfold tellv
  rw [if_pos hc, hd]
theorem tell2 (s : ByteArray) (hs : 2 ≤ s.size) (h : 192 ≤ bn s 0 ∧ bn s 0 < 224) : tellv s (bn s 0 % 32 * 64 + bn s 1 % 64) 2 = (((dcv s).1 : Int), ((dcv s).2 : Int)) := by
  have b1 := bn_lt s 1
  have hbl : bl s 2 = [(bn s 0 : Int), (bn s 1 : Int)] := rfl
  unfold tellv dcv
  rw [hbl]
  generalize bn s 0 = x0 at *
  generalize bn s 1 = x1 at *
  generalize bn s 2 = x2 at *
  generalize bn s 3 = x3 at *
  have key : (rok ((x0 % 32 * 64 + x1 % 64 : Nat) : Int) = true ∧ enc ((x0 % 32 * 64 + x1 % 64 : Nat) : Int) = [(x0 : Int), (x1 : Int)]) ↔ (x1 / 64 = 2 ∧ 128 ≤ x0 % 32 * 64 + x1 % 64) := by
    constructor
    · rintro ⟨_, e⟩
      unfold enc at e
      split at e
      · simp at e
      · split at e
        · simp only [List.cons.injEq, and_true] at e; omega
        · omega
    · intro q
      refine ⟨rok_iff.mpr (by omega), ?_⟩
      unfold enc
      rw [if_neg (by omega), if_pos (by omega)]
      simp only [List.cons.injEq, and_true]; omega
  unfold Lib.decodeN
  rw [if_neg (show ¬ x0 < 128 by omega)]
  by_cases q : x1 / 64 = 2
  · rw [if_pos (show x0 / 32 = 6 ∧ 1 < s.size ∧ x1 / 64 = 2 by omega)]
    by_cases q2 : x0 % 32 * 64 + x1 % 64 ≥ 128
    · rw [if_pos (key.mpr ⟨q, q2⟩), if_pos q2]
    · rw [if_neg (fun x => q2 (key.mp x).2), if_neg q2]; rfl
  · rw [if_neg (fun x => q (key.mp x).1), if_neg (by omega), if_neg (by omega), if_neg (by omega)]; rfl
theorem tell3 (s : ByteArray) (hs : 3 ≤ s.size) (h : 224 ≤ bn s 0 ∧ bn s 0 < 240) : tellv s ((bn s 0 % 16 * 64 + bn s 1 % 64) * 64 + bn s 2 % 64) 3 = (((dcv s).1 : Int), ((dcv s).2 : Int)) := by
  have b1 := bn_lt s 1
  have b2 := bn_lt s 2
  have hbl : bl s 3 = [(bn s 0 : Int), (bn s 1 : Int), (bn s 2 : Int)] := rfl
  unfold tellv dcv
  rw [hbl]
  generalize bn s 0 = x0 at *
  generalize bn s 1 = x1 at *
  generalize bn s 2 = x2 at *
  generalize bn s 3 = x3 at *
  have eR : (x0 % 16 * 64 + x1 % 64) * 64 + x2 % 64 = x0 % 16 * 4096 + x1 % 64 * 64 + x2 % 64 := by omega
  rw [eR]
  have key : (rok ((x0 % 16 * 4096 + x1 % 64 * 64 + x2 % 64 : Nat) : Int) = true ∧ enc ((x0 % 16 * 4096 + x1 % 64 * 64 + x2 % 64 : Nat) : Int) = [(x0 : Int), (x1 : Int), (x2 : Int)]) ↔ (x1 / 64 = 2 ∧ x2 / 64 = 2 ∧ 2048 ≤ x0 % 16 * 4096 + x1 % 64 * 64 + x2 % 64 ∧ (x0 % 16 * 4096 + x1 % 64 * 64 + x2 % 64 < 55296 ∨ 57344 ≤ x0 % 16 * 4096 + x1 % 64 * 64 + x2 % 64)) := by
    constructor
    · rintro ⟨hr, e⟩
      have hr := rok_iff.mp hr
      unfold enc at e
      split at e
      · simp at e
      · split at e
        · simp at e
        · split at e
          · simp only [List.cons.injEq, and_true] at e; omega
          · omega
    · intro q
      refine ⟨rok_iff.mpr (by omega), ?_⟩
      unfold enc
      rw [if_neg (by omega), if_neg (by omega), if_pos (by omega)]
      simp only [List.cons.injEq, and_true]; omega
  unfold Lib.decodeN
  rw [if_neg (show ¬ x0 < 128 by omega), if_neg (show ¬ (x0 / 32 = 6 ∧ 1 < s.size ∧ x1 / 64 = 2) by omega)]
  by_cases q : x1 / 64 = 2 ∧ x2 / 64 = 2
  · rw [if_pos (show x0 / 16 = 14 ∧ (1 < s.size ∧ x1 / 64 = 2) ∧ (2 < s.size ∧ x2 / 64 = 2) by omega)]
    by_cases q2 : x0 % 16 * 4096 + x1 % 64 * 64 + x2 % 64 ≥ 2048 ∧ (x0 % 16 * 4096 + x1 % 64 * 64 + x2 % 64 < 55296 ∨ (57344 ≤ x0 % 16 * 4096 + x1 % 64 * 64 + x2 % 64 ∧ x0 % 16 * 4096 + x1 % 64 * 64 + x2 % 64 ≤ 1114111))
    · rw [if_pos (key.mpr ⟨q.1, q.2, q2.1, by omega⟩), if_pos q2]
    · rw [if_neg (fun x => q2 (by have := key.mp x; omega)), if_neg q2]; rfl
  · rw [if_neg (fun x => q (by have := key.mp x; omega)), if_neg (by omega), if_neg (by omega)]; rfl
theorem tell4 (s : ByteArray) (hs : 4 ≤ s.size) (h : 240 ≤ bn s 0 ∧ bn s 0 < 248) : tellv s (((bn s 0 % 8 * 64 + bn s 1 % 64) * 64 + bn s 2 % 64) * 64 + bn s 3 % 64) 4 = (((dcv s).1 : Int), ((dcv s).2 : Int)) := by
  have b1 := bn_lt s 1
  have b2 := bn_lt s 2
  have b3 := bn_lt s 3
  have hbl : bl s 4 = [(bn s 0 : Int), (bn s 1 : Int), (bn s 2 : Int), (bn s 3 : Int)] := rfl
  unfold tellv dcv
  rw [hbl]
  generalize bn s 0 = x0 at *
  generalize bn s 1 = x1 at *
  generalize bn s 2 = x2 at *
  generalize bn s 3 = x3 at *
  have eR : ((x0 % 8 * 64 + x1 % 64) * 64 + x2 % 64) * 64 + x3 % 64 = x0 % 8 * 262144 + x1 % 64 * 4096 + x2 % 64 * 64 + x3 % 64 := by omega
  rw [eR]
  have key : (rok ((x0 % 8 * 262144 + x1 % 64 * 4096 + x2 % 64 * 64 + x3 % 64 : Nat) : Int) = true ∧ enc ((x0 % 8 * 262144 + x1 % 64 * 4096 + x2 % 64 * 64 + x3 % 64 : Nat) : Int) = [(x0 : Int), (x1 : Int), (x2 : Int), (x3 : Int)]) ↔ (x1 / 64 = 2 ∧ x2 / 64 = 2 ∧ x3 / 64 = 2 ∧ 65536 ≤ x0 % 8 * 262144 + x1 % 64 * 4096 + x2 % 64 * 64 + x3 % 64 ∧ x0 % 8 * 262144 + x1 % 64 * 4096 + x2 % 64 * 64 + x3 % 64 ≤ 1114111) := by
    constructor
    · rintro ⟨hr, e⟩
      have hr := rok_iff.mp hr
      unfold enc at e
      split at e
      · simp at e
      · split at e
        · simp at e
        · split at e
          · simp at e
          · simp only [List.cons.injEq, and_true] at e; omega
    · intro q
      refine ⟨rok_iff.mpr (by omega), ?_⟩
      unfold enc
      rw [if_neg (by omega), if_neg (by omega), if_neg (by omega)]
      simp only [List.cons.injEq, and_true]; omega
  unfold Lib.decodeN
  rw [if_neg (show ¬ x0 < 128 by omega), if_neg (show ¬ (x0 / 32 = 6 ∧ 1 < s.size ∧ x1 / 64 = 2) by omega), if_neg (show ¬ (x0 / 16 = 14 ∧ (1 < s.size ∧ x1 / 64 = 2) ∧ (2 < s.size ∧ x2 / 64 = 2)) by omega)]
  by_cases q : x1 / 64 = 2 ∧ x2 / 64 = 2 ∧ x3 / 64 = 2
  · rw [if_pos (show x0 / 8 = 30 ∧ (1 < s.size ∧ x1 / 64 = 2) ∧ (2 < s.size ∧ x2 / 64 = 2) ∧ (3 < s.size ∧ x3 / 64 = 2) by omega)]
    by_cases q2 : x0 % 8 * 262144 + x1 % 64 * 4096 + x2 % 64 * 64 + x3 % 64 ≥ 65536 ∧ (x0 % 8 * 262144 + x1 % 64 * 4096 + x2 % 64 * 64 + x3 % 64 < 55296 ∨ (57344 ≤ x0 % 8 * 262144 + x1 % 64 * 4096 + x2 % 64 * 64 + x3 % 64 ∧ x0 % 8 * 262144 + x1 % 64 * 4096 + x2 % 64 * 64 + x3 % 64 ≤ 1114111))
    · rw [if_pos (key.mpr ⟨q.1, q.2.1, q.2.2, q2.1, by omega⟩), if_pos q2]
    · rw [if_neg (fun x => q2 (by have := key.mp x; omega)), if_neg q2]; rfl
  · rw [if_neg (fun x => q (by have := key.mp x; omega)), if_neg (by omega)]; rfl
theorem spec_Get_ev (s : ByteArray) : Ev (fun k => spec_Get.f k s) (getv s) := by
  unfold spec_Get.f getv
  by_cases h : s.size = 0
  · rw [if_pos h]; exact ev_pos ((str_nil s).mpr h) (Ev.now _)
  rw [if_neg h]
  refine ev_neg (fun x => h ((str_nil s).mp x)) (ev_pos (by omega) ?_)
  have e0 : bt s 0 = (bn s 0 : Int) := bn_bt s 0 (by omega)
  rw [e0]
  refine Ev.bind (spec_l1Long_ev (bn s 0)) ?_
  have hb := bn_lt s 0
  have bad : ∀ n : Int, (((dcv s).1 : Int), ((dcv s).2 : Int)) = (65533, 1) → Ev (fun k => spec_Get.j0 k s n true) (((dcv s).1 : Int), ((dcv s).2 : Int)) := by
    intro n e
    refine ev_eq (ev_succ ?_) e.symm
    simp only [spec_Get.j0]
    exact ev_pos (by trivial) (Ev.now _)
  by_cases h1 : bn s 0 < 128
  · have hl : longv (bn s 0) = 1 := by unfold longv; rw [if_pos h1]
    rw [hl]
    refine ev_neg (by omega) ?_
    rw [decide_eq_false (by omega)]
    refine ev_succ ?_
    have e1 : ∀ _ : Unit, wrap64 (bt s 0) = (bn s 0 : Int) := fun _ => by rw [e0, w64 (by omega) (by omega)]
    simp only [spec_Get.j0, e1 ()]
    refine ev_neg (by simp) (ev_pos (by omega) (ev_neg (by omega) (ev_succ ?_)))
    simp only [spec_Get.j1]
    exact ev_eq (get_end s (bn s 0) 1 (by omega) (by omega)) (tell1 s h1)
  by_cases h2 : 192 ≤ bn s 0 ∧ bn s 0 < 224
  · have hl : longv (bn s 0) = 2 := by unfold longv; rw [if_neg h1, if_pos h2]
    rw [hl]
    refine ev_neg (by omega) ?_
    by_cases hs : s.size < 2
    · rw [decide_eq_true (by omega)]
      refine bad _ ?_
      unfold dcv Lib.decodeN
      rw [if_neg h1, if_neg (by omega), if_neg (by omega), if_neg (by omega)]; rfl
    · rw [decide_eq_false (by omega)]
      refine get_j0 s 2 32 (bn s 0 % 32) (by omega) (by omega) (by omega) (by decide +kernel) (by omega) (by decide +kernel) rfl ?_
      exact get_step s _ 2 1 (by omega) (by omega) (by omega) (by omega) (ev_eq (get_end s _ 2 (by omega) (by omega)) (tell2 s (by omega) h2))
  by_cases h3 : 224 ≤ bn s 0 ∧ bn s 0 < 240
  · have hl : longv (bn s 0) = 3 := by unfold longv; rw [if_neg h1, if_neg h2, if_pos h3]
    rw [hl]
    refine ev_neg (by omega) ?_
    by_cases hs : s.size < 3
    · rw [decide_eq_true (by omega)]
      refine bad _ ?_
      unfold dcv Lib.decodeN
      rw [if_neg h1, if_neg (by omega), if_neg (by omega), if_neg (by omega)]; rfl
    · rw [decide_eq_false (by omega)]
      refine get_j0 s 3 16 (bn s 0 % 16) (by omega) (by omega) (by omega) (by decide +kernel) (by omega) (by decide +kernel) rfl ?_
      exact get_step s _ 3 1 (by omega) (by omega) (by omega) (by omega) (get_step s _ 3 2 (by omega) (by omega) (by omega) (by omega) (ev_eq (get_end s _ 3 (by omega) (by omega)) (tell3 s (by omega) h3)))
  by_cases h4 : 240 ≤ bn s 0 ∧ bn s 0 < 248
  · have hl : longv (bn s 0) = 4 := by unfold longv; rw [if_neg h1, if_neg h2, if_neg h3, if_pos h4]
    rw [hl]
    refine ev_neg (by omega) ?_
    by_cases hs : s.size < 4
    · rw [decide_eq_true (by omega)]
      refine bad _ ?_
      unfold dcv Lib.decodeN
      rw [if_neg h1, if_neg (by omega), if_neg (by omega), if_neg (by omega)]; rfl
    · rw [decide_eq_false (by omega)]
      refine get_j0 s 4 8 (bn s 0 % 8) (by omega) (by omega) (by omega) (by decide +kernel) (by omega) (by decide +kernel) rfl ?_
      exact get_step s _ 4 1 (by omega) (by omega) (by omega) (by omega) (get_step s _ 4 2 (by omega) (by omega) (by omega) (by omega) (get_step s _ 4 3 (by omega) (by omega) (by omega) (by omega) (ev_eq (get_end s _ 4 (by omega) (by omega)) (tell4 s (by omega) h4))))
  · have hl : longv (bn s 0) = 0 := by unfold longv; rw [if_neg h1, if_neg h2, if_neg h3, if_neg h4]
    rw [hl]
    refine ev_pos (by omega) (bad _ ?_)
    unfold dcv Lib.decodeN
    rw [if_neg h1, if_neg (by omega), if_neg (by omega), if_neg (by omega)]; rfl

theorem rd_nat (l : List Int) (i : Nat) : rd l (i : Int) = l.getD i 0 := by simp [rd]
theorem rd_at {l : List Int} {i : Nat} (h : i < l.length) : rd l (i : Int) = l[i] := by rw [rd_nat, List.getD_eq_getElem?_getD, List.getElem?_eq_getElem h]; rfl
theorem take_set_succ {α : Type} (l : List α) (i : Nat) (a : α) (h : i < l.length) : (l.set i a).take (i + 1) = l.take i ++ [a] := by
  rw [List.take_succ_eq_append_getElem (by simpa using h), List.take_set, List.set_eq_of_length_le (by rw [List.length_take]; omega)]
  simp

theorem rdOf_at {α : Type} (d : α) {l : List α} {i : Nat} (h : i < l.length) : rdOf d l (i : Int) = l[i] := by
  unfold rdOf; rw [Int.toNat_natCast, List.getD_eq_getElem?_getD, List.getElem?_eq_getElem h]; rfl
theorem maxLen_eq : maxLen = 9223372036854775807 := rfl

theorem bn_append (s t : ByteArray) (i : Nat) : bn (s ++ t) i = if i < s.size then bn s i else bn t (i - s.size) := by
  have hd : (s ++ t).data = s.data ++ t.data := ByteArray.data_append
  have hg : ∀ (u : ByteArray) (j : Nat), u.get! j = u.data[j]! := fun u j => by cases u; rfl
  have hsz : s.size = s.data.size := rfl
  unfold bn
  rw [hg, hg, hg, hd]
  by_cases h : i < s.size
  · rw [if_pos h]
    rw [hsz] at h
    congr 1
    rw [getElem!_pos s.data i h, getElem!_pos (s.data ++ t.data) i (by rw [Array.size_append]; omega), Array.getElem_append_left h]
  · rw [if_neg h]
    rw [hsz] at h ⊢
    congr 1
    by_cases h2 : i - s.data.size < t.data.size
    · rw [getElem!_pos t.data _ h2, getElem!_pos (s.data ++ t.data) i (by rw [Array.size_append]; omega), Array.getElem_append_right (by omega)]
    · rw [getElem!_neg t.data _ h2, getElem!_neg (s.data ++ t.data) i (by rw [Array.size_append]; omega)]
/-- A text that may be the beginning of a rune's bytes, and is not all of them. -/
def begunv (s : ByteArray) : Bool := if s.size = 0 then true else if s.size ≤ 3 then !(fullv s) else false
theorem impl_isBegun_eq (s : ByteArray) : impl_isBegun.f s = some (begunv s) := by
  unfold impl_isBegun.f begunv
  by_cases h : s.size = 0
  · rw [if_pos ((str_nil s).mpr h), if_pos h]
  · rw [if_neg (fun x => h ((str_nil s).mp x)), if_neg h, full_eq]
    by_cases h3 : s.size ≤ 3
    · rw [if_pos (by omega), if_pos h3]; rfl
    · rw [if_neg (by omega), if_neg h3]
theorem firstT_spec (b : Nat) (h0 : 192 ≤ b) (h1 : b < 248) : (b < 194 ∧ Lib.firstT b = 241) ∨ (194 ≤ b ∧ b < 224 ∧ Lib.firstT b = 2) ∨ (b = 224 ∧ Lib.firstT b = 19) ∨ (225 ≤ b ∧ b < 237 ∧ Lib.firstT b = 3) ∨ (b = 237 ∧ Lib.firstT b = 35) ∨
    (238 ≤ b ∧ b < 240 ∧ Lib.firstT b = 3) ∨ (b = 240 ∧ Lib.firstT b = 52) ∨ (241 ≤ b ∧ b < 244 ∧ Lib.firstT b = 4) ∨ (b = 244 ∧ Lib.firstT b = 68) ∨ (245 ≤ b ∧ Lib.firstT b = 241) := by
  unfold Lib.firstT
  rw [if_neg (by omega)]
  by_cases h : b < 194
  · rw [if_pos h]; omega
  rw [if_neg h]
  by_cases h : b < 224
  · rw [if_pos h]; omega
  rw [if_neg h]
  by_cases h : b = 224
  · rw [if_pos h]; omega
  rw [if_neg h]
  by_cases h : b < 237
  · rw [if_pos h]; omega
  rw [if_neg h]
  by_cases h : b = 237
  · rw [if_pos h]; omega
  rw [if_neg h]
  by_cases h : b < 240
  · rw [if_pos h]; omega
  rw [if_neg h]
  by_cases h : b = 240
  · rw [if_pos h]; omega
  rw [if_neg h]
  by_cases h : b < 244
  · rw [if_pos h]; omega
  rw [if_neg h]
  by_cases h : b = 244
  · rw [if_pos h]; omega
  rw [if_neg h]; omega
/-- As a proposition: a text begins with a whole rune, or with what is none. -/
theorem fullv_iff (s : ByteArray) (h : s.size ≠ 0) : fullv s = true ↔ (Lib.firstT (bn s 0) % 8 ≤ s.size ∨ (1 < s.size ∧ (bn s 1 < Lib.accLo (Lib.firstT (bn s 0) / 16) ∨ Lib.accHi (Lib.firstT (bn s 0) / 16) < bn s 1)) ∨ (2 < s.size ∧ (bn s 2 < 128 ∨ 191 < bn s 2))) := by
  unfold fullv utf8_FullRuneInString.f bn
  rw [Option.getD_some, if_neg h]
  split
  · simp_all
  · split
    · simp_all
    · split
      · simp_all
      · rename_i h1 h2 h3
        simp only [Bool.false_eq_true, false_iff, not_or]
        exact ⟨h1, h2, h3⟩
theorem long_full (s : ByteArray) (h : s.size ≠ 0) (hl : longv (bn s 0) ≤ s.size) : fullv s = true := by
  rw [fullv_iff s h]
  left
  have hb := bn_lt s 0
  by_cases h1 : bn s 0 < 128
  · have : Lib.firstT (bn s 0) = 240 := by unfold Lib.firstT; rw [if_pos h1]
    omega
  by_cases h2 : bn s 0 < 194
  · have : Lib.firstT (bn s 0) = 241 := by unfold Lib.firstT; rw [if_neg h1, if_pos h2]
    omega
  by_cases h3 : 248 ≤ bn s 0
  · have : Lib.firstT (bn s 0) = 241 := by unfold Lib.firstT; rw [if_neg h1, if_neg h2, if_neg (by omega), if_neg (by omega), if_neg (by omega), if_neg (by omega), if_neg (by omega), if_neg (by omega), if_neg (by omega), if_neg (by omega)]
    omega
  have hl2 : (bn s 0 < 224 → 2 ≤ s.size) ∧ (224 ≤ bn s 0 → bn s 0 < 240 → 3 ≤ s.size) ∧ (240 ≤ bn s 0 → 4 ≤ s.size) := by
    unfold longv at hl
    rw [if_neg h1] at hl
    by_cases q1 : bn s 0 < 224
    · rw [if_pos (by omega)] at hl; omega
    · rw [if_neg (by omega)] at hl
      by_cases q2 : bn s 0 < 240
      · rw [if_pos (by omega)] at hl; omega
      · rw [if_neg (by omega), if_pos (by omega)] at hl; omega
  have hF := firstT_spec (bn s 0) (by omega) (by omega)
  omega
def fills : List ByteArray := [(⟨#[128, 128, 128]⟩ : ByteArray), (⟨#[160, 128, 128]⟩ : ByteArray), (⟨#[144, 128, 128]⟩ : ByteArray), (⟨#[191, 191, 191]⟩ : ByteArray), (⟨#[159, 191, 191]⟩ : ByteArray), (⟨#[143, 191, 191]⟩ : ByteArray)]
theorem fills_size : ∀ f ∈ fills, f.size = 3 := by
  intro f hf
  simp only [fills, List.mem_cons, List.not_mem_nil, or_false] at hf
  rcases hf with rfl | rfl | rfl | rfl | rfl | rfl <;> rfl
/-- What is told of a text that is filled up. -/
theorem filled (s : ByteArray) (m n : Nat) (hs : s.size = m) (hm : 1 ≤ m) (hmn : m < n) (hn : n ≤ 4) (f : ByteArray) (hf : f.size = 3) :
    (getv (s ++ f.extract 0 (n - m))).2 = ((Lib.decodeN n (bn s 0) (if 1 < m then bn s 1 else bn f (1 - m)) (if 2 < m then bn s 2 else if 2 < n then bn f (2 - m) else 0) (if 3 < n then bn f (3 - m) else 0)).2 : Int) := by
  have hz : (s ++ f.extract 0 (n - m)).size = n := by rw [ByteArray.size_append, ByteArray.size_extract]; omega
  have hx : ∀ j, bn (f.extract 0 (n - m)) j = if j < n - m then bn f j else 0 := by
    intro j
    have hg : ∀ (u : ByteArray) (j : Nat), u.get! j = u.data[j]! := fun u j => by cases u; rfl
    have hfs : f.data.size = 3 := hf
    unfold bn
    rw [hg, hg, ByteArray.data_extract]
    by_cases h : j < n - m
    · rw [if_pos h, getElem!_pos _ j (by rw [Array.size_extract]; omega), Array.getElem_extract, getElem!_pos f.data j (by omega)]
      simp only [Nat.zero_add]
    · rw [if_neg h, getElem!_neg _ j (by rw [Array.size_extract]; omega)]; rfl
  unfold getv
  rw [if_neg (by omega)]
  unfold dcv
  rw [hz]
  simp only [bn_append, hs, hx]
  congr 3
  · rw [if_pos (by omega)]
  · by_cases h : 1 < m
    · rw [if_pos h, if_pos h]
    · rw [if_neg h, if_neg h, if_pos (by omega)]
  · by_cases h : 2 < m
    · rw [if_pos h, if_pos h]
    · rw [if_neg h, if_neg h]
      by_cases h2 : 2 < n
      · rw [if_pos h2, if_pos (by omega)]
      · rw [if_neg h2, if_neg (by omega)]
  · rw [if_neg (by omega)]
    by_cases h2 : 3 < n
    · rw [if_pos h2, if_pos (by omega)]
    · rw [if_neg h2, if_neg (by omega)]
theorem long_range (b : Nat) : (longv b = 2 → 192 ≤ b ∧ b < 224) ∧ (longv b = 3 → 224 ≤ b ∧ b < 240) ∧ (longv b = 4 → 240 ≤ b ∧ b < 248) ∧ longv b ≤ 4 := by
  unfold longv
  repeat' split
  all_goals omega
theorem part_iff (s : ByteArray) (h : s.size ≠ 0) (hl : s.size < longv (bn s 0)) :
    (∃ f ∈ fills, (getv (s ++ f.extract 0 (longv (bn s 0) - s.size))).2 = (longv (bn s 0) : Int)) ↔ fullv s = false := by
  obtain ⟨r2, r3, r4, rl⟩ := long_range (bn s 0)
  have hb1 := bn_lt s 1
  have hb2 := bn_lt s 2
  have key : ∀ f ∈ fills, (getv (s ++ f.extract 0 (longv (bn s 0) - s.size))).2 = _ := fun f hf => filled s s.size (longv (bn s 0)) rfl (by omega) hl rl f (fills_size f hf)
  have conv : (∃ f ∈ fills, (getv (s ++ f.extract 0 (longv (bn s 0) - s.size))).2 = (longv (bn s 0) : Int)) ↔
      ∃ f ∈ fills, (Lib.decodeN (longv (bn s 0)) (bn s 0) (if 1 < s.size then bn s 1 else bn f (1 - s.size)) (if 2 < s.size then bn s 2 else if 2 < longv (bn s 0) then bn f (2 - s.size) else 0) (if 3 < longv (bn s 0) then bn f (3 - s.size) else 0)).2 = longv (bn s 0) := by
    constructor
    · rintro ⟨f, hf, e⟩
      exact ⟨f, hf, by rw [key f hf] at e; omega⟩
    · rintro ⟨f, hf, e⟩
      exact ⟨f, hf, by rw [key f hf]; omega⟩
  rw [conv]
  clear conv key
  rw [show (fullv s = false) ↔ ¬ (fullv s = true) by simp, fullv_iff s h]
  have f00 : bn (⟨#[128, 128, 128]⟩ : ByteArray) 0 = 128 := rfl
  have f01 : bn (⟨#[128, 128, 128]⟩ : ByteArray) 1 = 128 := rfl
  have f02 : bn (⟨#[128, 128, 128]⟩ : ByteArray) 2 = 128 := rfl
  have f10 : bn (⟨#[160, 128, 128]⟩ : ByteArray) 0 = 160 := rfl
  have f11 : bn (⟨#[160, 128, 128]⟩ : ByteArray) 1 = 128 := rfl
  have f12 : bn (⟨#[160, 128, 128]⟩ : ByteArray) 2 = 128 := rfl
  have f20 : bn (⟨#[144, 128, 128]⟩ : ByteArray) 0 = 144 := rfl
  have f21 : bn (⟨#[144, 128, 128]⟩ : ByteArray) 1 = 128 := rfl
  have f22 : bn (⟨#[144, 128, 128]⟩ : ByteArray) 2 = 128 := rfl
  have f30 : bn (⟨#[191, 191, 191]⟩ : ByteArray) 0 = 191 := rfl
  have f31 : bn (⟨#[191, 191, 191]⟩ : ByteArray) 1 = 191 := rfl
  have f32 : bn (⟨#[191, 191, 191]⟩ : ByteArray) 2 = 191 := rfl
  have f40 : bn (⟨#[159, 191, 191]⟩ : ByteArray) 0 = 159 := rfl
  have f41 : bn (⟨#[159, 191, 191]⟩ : ByteArray) 1 = 191 := rfl
  have f42 : bn (⟨#[159, 191, 191]⟩ : ByteArray) 2 = 191 := rfl
  have f50 : bn (⟨#[143, 191, 191]⟩ : ByteArray) 0 = 143 := rfl
  have f51 : bn (⟨#[143, 191, 191]⟩ : ByteArray) 1 = 191 := rfl
  have f52 : bn (⟨#[143, 191, 191]⟩ : ByteArray) 2 = 191 := rfl
  obtain ⟨b0, e0⟩ : ∃ x, bn s 0 = x := ⟨_, rfl⟩
  obtain ⟨b1, e1⟩ : ∃ x, bn s 1 = x := ⟨_, rfl⟩
  obtain ⟨b2, e2⟩ : ∃ x, bn s 2 = x := ⟨_, rfl⟩
  obtain ⟨m, em⟩ : ∃ x, s.size = x := ⟨_, rfl⟩
  obtain ⟨n, en⟩ : ∃ x, longv b0 = x := ⟨_, rfl⟩
  rw [e0, em] at hl ⊢
  rw [e0] at r2 r3 r4 rl
  rw [e1] at hb1 ⊢
  rw [e2] at hb2 ⊢
  rw [em] at h
  rw [en] at hl r2 r3 r4 rl ⊢
  have hmn : (m = 1 ∧ n = 2) ∨ (m = 1 ∧ n = 3) ∨ (m = 1 ∧ n = 4) ∨ (m = 2 ∧ n = 3) ∨ (m = 2 ∧ n = 4) ∨ (m = 3 ∧ n = 4) := by omega
  simp only [fills, List.mem_cons, List.not_mem_nil, or_false, exists_eq_or_imp, exists_eq_left]
  have hF := firstT_spec b0
  generalize Lib.firstT b0 = F at hF ⊢
  clear e0 e1 e2 em en
  rcases hmn with ⟨rfl, rfl⟩ | ⟨rfl, rfl⟩ | ⟨rfl, rfl⟩ | ⟨rfl, rfl⟩ | ⟨rfl, rfl⟩ | ⟨rfl, rfl⟩
  all_goals simp only [Nat.lt_irrefl, Nat.reduceLT, Nat.reduceSub, if_true, if_false, f00, f01, f02, f10, f11, f12, f20, f21, f22, f30, f31, f32, f40, f41, f42, f50, f51, f52, false_and, true_and, or_false]
  · have hr := r2 rfl
    simp only [width2 2 b0 _ _ _ (show b0 / 32 = 6 by omega) (by omega), true_and, and_true, false_and, and_false, or_false, false_or]
    rcases hF (by omega) (by omega) with ⟨_, rfl⟩ | ⟨_, _, rfl⟩ | ⟨_, rfl⟩ | ⟨_, _, rfl⟩ | ⟨_, rfl⟩ | ⟨_, _, rfl⟩ | ⟨_, rfl⟩ | ⟨_, _, rfl⟩ | ⟨_, rfl⟩ | ⟨_, rfl⟩ <;> (constructor <;> intro h_ <;> omega)
  · have hr := r3 rfl
    simp only [width3 3 b0 _ _ _ (show b0 / 16 = 14 by omega) (by omega), true_and, and_true, false_and, and_false, or_false, false_or]
    rcases hF (by omega) (by omega) with ⟨_, rfl⟩ | ⟨_, _, rfl⟩ | ⟨_, rfl⟩ | ⟨_, _, rfl⟩ | ⟨_, rfl⟩ | ⟨_, _, rfl⟩ | ⟨_, rfl⟩ | ⟨_, _, rfl⟩ | ⟨_, rfl⟩ | ⟨_, rfl⟩ <;> (constructor <;> intro h_ <;> omega)
  · have hr := r4 rfl
    simp only [width4 4 b0 _ _ _ (show b0 / 8 = 30 by omega) (by omega), true_and, and_true, false_and, and_false, or_false, false_or]
    rcases hF (by omega) (by omega) with ⟨_, rfl⟩ | ⟨_, _, rfl⟩ | ⟨_, rfl⟩ | ⟨_, _, rfl⟩ | ⟨_, rfl⟩ | ⟨_, _, rfl⟩ | ⟨_, rfl⟩ | ⟨_, _, rfl⟩ | ⟨_, rfl⟩ | ⟨_, rfl⟩ <;> (constructor <;> intro h_ <;> omega)
  · have hr := r3 rfl
    simp only [width3 3 b0 _ _ _ (show b0 / 16 = 14 by omega) (by omega), true_and, and_true, false_and, and_false, or_false, false_or]
    rcases hF (by omega) (by omega) with ⟨_, rfl⟩ | ⟨_, _, rfl⟩ | ⟨_, rfl⟩ | ⟨_, _, rfl⟩ | ⟨_, rfl⟩ | ⟨_, _, rfl⟩ | ⟨_, rfl⟩ | ⟨_, _, rfl⟩ | ⟨_, rfl⟩ | ⟨_, rfl⟩ <;>
      simp only [Lib.accLo, Lib.accHi, true_and, and_true, false_and, and_false, or_false, false_or, Nat.reduceDiv, Nat.reduceMod, Nat.reduceEqDiff, if_true, if_false] <;> (constructor <;> intro h_ <;> omega)
  · have hr := r4 rfl
    simp only [width4 4 b0 _ _ _ (show b0 / 8 = 30 by omega) (by omega), true_and, and_true, false_and, and_false, or_false, false_or]
    rcases hF (by omega) (by omega) with ⟨_, rfl⟩ | ⟨_, _, rfl⟩ | ⟨_, rfl⟩ | ⟨_, _, rfl⟩ | ⟨_, rfl⟩ | ⟨_, _, rfl⟩ | ⟨_, rfl⟩ | ⟨_, _, rfl⟩ | ⟨_, rfl⟩ | ⟨_, rfl⟩ <;>
      simp only [Lib.accLo, Lib.accHi, true_and, and_true, false_and, and_false, or_false, false_or, Nat.reduceDiv, Nat.reduceMod, Nat.reduceEqDiff, if_true, if_false] <;> (constructor <;> intro h_ <;> omega)
  · have hr := r4 rfl
    simp only [width4 4 b0 _ _ _ (show b0 / 8 = 30 by omega) (by omega), true_and, and_true, false_and, and_false, or_false, false_or]
    rcases hF (by omega) (by omega) with ⟨_, rfl⟩ | ⟨_, _, rfl⟩ | ⟨_, rfl⟩ | ⟨_, _, rfl⟩ | ⟨_, rfl⟩ | ⟨_, _, rfl⟩ | ⟨_, rfl⟩ | ⟨_, _, rfl⟩ | ⟨_, rfl⟩ | ⟨_, rfl⟩ <;>
      simp only [Lib.accLo, Lib.accHi, true_and, and_true, false_and, and_false, or_false, false_or, Nat.reduceDiv, Nat.reduceMod, Nat.reduceEqDiff, if_true, if_false] <;> (constructor <;> intro h_ <;> omega)
theorem spec_l1Part_ev (s : ByteArray) (hs : s.size < 4611686018427387904) : Ev (fun k => spec_l1Part.f k s) (begunv s) := by
  unfold spec_l1Part.f begunv
  by_cases h : s.size = 0
  · rw [if_pos h]; exact ev_pos ((str_nil s).mpr h) (Ev.now _)
  rw [if_neg h]
  refine ev_neg (fun x => h ((str_nil s).mp x)) (ev_pos (by omega) ?_)
  have e0 : bt s 0 = (bn s 0 : Int) := bn_bt s 0 (by omega)
  rw [e0]
  refine Ev.bind (spec_l1Long_ev (bn s 0)) ?_
  have rl := (long_range (bn s 0)).2.2.2
  by_cases hl : longv (bn s 0) ≤ s.size
  · refine ev_pos (by omega) (ev_eq (Ev.now _) ?_)
    split
    · rw [long_full s h hl]; rfl
    · rfl
  · refine ev_neg (by omega) ?_
    rw [if_pos (by omega)]
    have hp : ∀ _ : Unit, _ := fun _ => part_iff s h (by omega)
    generalize longv (bn s 0) = n at *
    have go : ∀ (d i : Nat), i + d = fills.length → ∃ b, Ev (fun k => spec_l1Part.l0 k s (n : Int) fills (fills.length : Int) (i : Int)) b ∧ (b = true ↔ ∃ f ∈ fills.drop i, (getv (s ++ f.extract 0 (n - s.size))).2 = (n : Int)) := by
      intro d
      induction d with
      | zero =>
        intro i hi
        refine ⟨false, ev_succ ?_, by rw [List.drop_of_length_le (by omega)]; simp⟩
        simp only [spec_l1Part.l0]
        exact ev_neg (by omega) (Ev.now _)
      | succ d ih =>
        intro i hi
        obtain ⟨b, e, hb0⟩ := ih (i + 1) (by omega)
        have hb : ∀ _ : Unit, _ := fun _ => hb0
        clear hb0
        have hil : i < fills.length := by omega
        have hf := fills_size _ (List.getElem_mem hil)
        have hfl : fills.length = 6 := rfl
        have w1 : ∀ _ : Unit, wrap64 ((i : Int) + 1) = ((i + 1 : Nat) : Int) := fun _ => by rw [w64 (by omega) (by omega)]; omega
        have w2 : ∀ _ : Unit, wrap64 ((n : Int) - (s.size : Int)) = ((n - s.size : Nat) : Int) := fun _ => by rw [w64 (by omega) (by omega)]; omega
        have hx : (fills[i].extract 0 (n - s.size)).size ≤ 3 := by rw [ByteArray.size_extract]; omega
        rw [List.drop_eq_getElem_cons hil]
        by_cases q : (getv (s ++ fills[i].extract 0 (n - s.size))).2 = (n : Int)
        · refine ⟨true, ev_succ ?_, ⟨fun _ => ⟨_, List.mem_cons_self, q⟩, fun _ => rfl⟩⟩
          simp only [spec_l1Part.l0, rdOf_at ByteArray.empty hil, w1 (), w2 (), Int.toNat_natCast]
          exact ev_pos (by omega) (ev_pos (by omega) (ev_pos (by omega) (ev_pos (by omega) (ev_pos (by omega) (ev_pos (by omega) (Ev.bind (spec_Get_ev _) (ev_pos q (Ev.now _))))))))
        · refine ⟨b, ev_succ ?_, ?_⟩
          · simp only [spec_l1Part.l0, rdOf_at ByteArray.empty hil, w1 (), w2 (), Int.toNat_natCast]
            exact ev_pos (by omega) (ev_pos (by omega) (ev_pos (by omega) (ev_pos (by omega) (ev_pos (by omega) (ev_pos (by omega) (Ev.bind (spec_Get_ev _) (ev_neg q e)))))))
          · rw [hb ()]
            constructor
            · rintro ⟨f, hf, e⟩; exact ⟨f, List.mem_cons_of_mem _ hf, e⟩
            · rintro ⟨f, hf, e⟩
              rcases List.mem_cons.mp hf with rfl | hf
              · exact absurd e q
              · exact ⟨f, hf, e⟩
    obtain ⟨b, e, hb⟩ := go fills.length 0 (by omega)
    rw [List.drop_zero, hp ()] at hb
    refine ev_bind_some (ev_eq e ?_)
    cases b <;> cases hfv : fullv s <;> simp_all
theorem spec_FeederOk_ev (s : ByteArray) (hs : s.size < 4611686018427387904) : Ev (fun k => spec_FeederOk.f k s) (begunv s) := by
  unfold spec_FeederOk.f
  by_cases h : (s.size : Int) ≤ 3
  · exact ev_pos h (Ev.bind (spec_l1Part_ev s hs) (Ev.now _))
  · refine ev_neg h (ev_eq (Ev.now _) ?_)
    unfold begunv
    rw [if_neg (by omega), if_neg (by omega)]
theorem impl_FeederOk_eq (s : ByteArray) : impl_FeederOk.f s = some (begunv s) := by
  unfold impl_FeederOk.f
  rw [impl_isBegun_eq]; rfl

/-- Runes are told from the front while the text is no mere beginning; what is left, and what was told behind what was told before. -/
def fedv : Nat → ByteArray → List Int → ByteArray × List Int
  | 0, s, o => (s, o)
  | f + 1, s, o => if begunv s = true then (s, o) else fedv f (s.extract (getv s).2.toNat s.size) (o ++ [(getv s).1])
theorem begunv_pos (s : ByteArray) (h : ¬ begunv s = true) : s.size ≠ 0 := fun e => h (by unfold begunv; rw [if_pos e])
theorem begunv_le (s : ByteArray) (h : begunv s = true) : s.size ≤ 3 := by
  unfold begunv at h
  by_cases h0 : s.size = 0
  · omega
  · rw [if_neg h0] at h
    by_cases h3 : s.size ≤ 3
    · exact h3
    · rw [if_neg h3] at h; cases h
theorem fedv_ok : ∀ (f : Nat) (s : ByteArray) (o : List Int), s.size ≤ f → begunv (fedv f s o).1 = true ∧ (fedv f s o).2.length ≤ o.length + s.size
  | 0, s, o, h => ⟨by show begunv s = true; unfold begunv; rw [if_pos (by omega)], by unfold fedv; simp⟩
  | f + 1, s, o, h => by
    unfold fedv
    by_cases hb : begunv s = true
    · rw [if_pos hb]; exact ⟨hb, by simp⟩
    · rw [if_neg hb]
      have hp := begunv_pos s hb
      have hg := getv_bounds s hp
      have := fedv_ok f (s.extract (getv s).2.toNat s.size) (o ++ [(getv s).1]) (by rw [ext_size]; omega)
      refine ⟨this.1, ?_⟩
      have h2 := this.2
      rw [ext_size, List.length_append] at h2
      simp only [List.length_singleton] at h2
      omega
theorem spec_Feed_l0_ev : ∀ (f : Nat) (s : ByteArray) (o : List Int), s.size ≤ f → o.length + s.size < 17592186044416 → Ev (fun k => spec_Feed.l0 k o s) (fedv f s o) := by
  intro f
  induction f with
  | zero =>
    intro s o h hl
    refine ev_succ ?_
    simp only [spec_Feed.l0]
    exact ev_pos ((str_nil s).mpr (by omega)) (Ev.now _)
  | succ f ih =>
    intro s o h hl
    refine ev_succ ?_
    simp only [spec_Feed.l0]
    unfold fedv
    by_cases h0 : s.size = 0
    · refine ev_pos ((str_nil s).mpr h0) (ev_eq (Ev.now _) ?_)
      rw [if_pos (by unfold begunv; rw [if_pos h0])]
    · refine ev_neg (fun x => h0 ((str_nil s).mp x)) (Ev.bind (spec_l1Part_ev s (by omega)) ?_)
      by_cases hb : begunv s = true
      · rw [if_pos hb]; exact ev_pos hb (Ev.now _)
      · rw [if_neg hb]
        have hg := getv_bounds s h0
        exact ev_neg hb (Ev.bind (spec_Get_ev s) (ev_pos (by omega) (ev_pos (by omega) (ev_pos (by omega) (ih _ _ (by rw [ext_size]; omega) (by rw [ext_size, List.length_append]; simp only [List.length_singleton]; omega))))))
theorem impl_Feed_l0_ev : ∀ (f : Nat) (s : ByteArray) (o : List Int), s.size ≤ f → o.length + s.size < 17592186044416 → Ev (fun k => impl_Feed.l0 k s o) (fedv f s o) := by
  intro f
  induction f with
  | zero =>
    intro s o h hl
    refine ev_succ ?_
    simp only [impl_Feed.l0, impl_isBegun_eq, Option.bind_some]
    have : begunv s = true := by unfold begunv; rw [if_pos (by omega)]
    exact ev_pos this (Ev.now _)
  | succ f ih =>
    intro s o h hl
    refine ev_succ ?_
    simp only [impl_Feed.l0, impl_isBegun_eq, Option.bind_some]
    unfold fedv
    by_cases hb : begunv s = true
    · rw [if_pos hb]; exact ev_pos hb (Ev.now _)
    · rw [if_neg hb]
      have h0 := begunv_pos s hb
      have hg := getv_bounds s h0
      exact ev_neg hb (ev_bind_of (impl_Get_eq s) (ev_pos (by omega) (ev_pos (by omega) (ev_pos (by omega) (ih _ _ (by rw [ext_size]; omega) (by rw [ext_size, List.length_append]; simp only [List.length_singleton]; omega))))))
/-- A feeder that is fed a byte. -/
def feedv (s : ByteArray) (b : Int) : ByteArray × List Int := if begunv s = true then fedv (s ++ strOfNums [b]).size (s ++ strOfNums [b]) [] else ((⟨#[]⟩ : ByteArray), [])
theorem one_size (b : Int) : (strOfNums [b]).size = 1 := by rw [strOfNums_size]; rfl
theorem feedv_ok (s : ByteArray) (b : Int) : begunv (feedv s b).1 = true ∧ (feedv s b).2.length ≤ 4 := by
  unfold feedv
  by_cases h : begunv s = true
  · rw [if_pos h]
    have := fedv_ok (s ++ strOfNums [b]).size (s ++ strOfNums [b]) [] (Nat.le_refl _)
    have h3 := begunv_le s h
    have hz : (s ++ strOfNums [b]).size = s.size + 1 := by rw [ByteArray.size_append, one_size]
    refine ⟨this.1, ?_⟩
    have h2 := this.2
    simp only [List.length_nil] at h2
    omega
  · rw [if_neg h]; exact ⟨rfl, by simp⟩
theorem spec_Feed_ev (s : ByteArray) (b : Int) (hs : s.size < 4611686018427387904) : Ev (fun k => spec_Feed.f k s b) (feedv s b) := by
  unfold spec_Feed.f feedv
  refine ev_bind_some (Ev.bind (spec_FeederOk_ev s hs) ?_)
  by_cases h : begunv s = true
  · have h3 := begunv_le s h
    have hz : (s ++ strOfNums [b]).size = s.size + 1 := by rw [ByteArray.size_append, one_size]
    rw [if_pos h]
    exact ev_pos h (ev_bind_some (ev_pos (by rw [one_size]; omega) (spec_Feed_l0_ev _ _ _ (Nat.le_refl _) (by rw [hz]; simp only [List.length_nil]; omega))))
  · rw [if_neg h]; exact ev_neg h (Ev.now _)
theorem impl_Feed_ev (s : ByteArray) (b : Int) : Ev (fun k => impl_Feed.f k s b) (feedv s b) := by
  unfold impl_Feed.f feedv
  simp only [impl_FeederOk_eq, Option.bind_some]
  by_cases h : begunv s = true
  · have h3 := begunv_le s h
    have hz : (s ++ strOfNums [b]).size = s.size + 1 := by rw [ByteArray.size_append, one_size]
    rw [if_pos h]
    exact ev_pos h (ev_pos (by rw [one_size]; omega) (impl_Feed_l0_ev _ _ _ (Nat.le_refl _) (by rw [hz]; simp only [List.length_nil]; omega)))
  · rw [if_neg h]; exact ev_neg h (Ev.now _)

/-- The runes of a text. -/
def runesv : Nat → ByteArray → List Int
  | 0, _ => []
  | f + 1, s => if s.size = 0 then [] else (getv s).1 :: runesv f (s.extract (getv s).2.toNat s.size)
theorem runesv_length : ∀ (f : Nat) (s : ByteArray), (runesv f s).length ≤ s.size
  | 0, s => by simp [runesv]
  | f + 1, s => by
    unfold runesv
    by_cases h : s.size = 0
    · rw [if_pos h]; simp
    · rw [if_neg h, List.length_cons]
      have := runesv_length f (s.extract (getv s).2.toNat s.size)
      have hb := getv_bounds s h
      rw [ext_size] at this
      omega
/-- More rounds than bytes tell the same. -/
theorem runesv_more : ∀ (f g : Nat) (s : ByteArray), s.size ≤ f → s.size ≤ g → runesv f s = runesv g s
  | 0, 0, s, _, _ => rfl
  | 0, g + 1, s, h, _ => by unfold runesv; rw [if_pos (by omega)]
  | f + 1, 0, s, _, h => by unfold runesv; rw [if_pos (by omega)]
  | f + 1, g + 1, s, h1, h2 => by
    unfold runesv
    by_cases h : s.size = 0
    · rw [if_pos h, if_pos h]
    · rw [if_neg h, if_neg h]
      have hb := getv_bounds s h
      rw [runesv_more f g _ (by rw [ext_size]; omega) (by rw [ext_size]; omega)]
def runes (s : ByteArray) : List Int := runesv s.size s
theorem runes_nil (s : ByteArray) (h : s.size = 0) : runes s = [] := by unfold runes; rw [h]; rfl
theorem runes_cons (s : ByteArray) (h : s.size ≠ 0) : runes s = (getv s).1 :: runes (s.extract (getv s).2.toNat s.size) := by
  have hb := getv_bounds s h
  unfold runes
  rw [show s.size = (s.size - 1) + 1 by omega]
  show (if s.size = 0 then [] else (getv s).1 :: runesv (s.size - 1) (s.extract (getv s).2.toNat s.size)) = _
  rw [if_neg h, runesv_more (s.size - 1) (s.extract (getv s).2.toNat s.size).size _ (by rw [ext_size]; omega) (Nat.le_refl _), show s.size - 1 + 1 = s.size by omega]
theorem runes_length (s : ByteArray) : (runes s).length ≤ s.size := runesv_length _ _
theorem runes_go {l0 : Nat → ByteArray → List Int → Option (List Int)}
    (h0 : ∀ s acc, s.size = 0 → Ev (fun k => l0 k s acc) acc)
    (h1 : ∀ s acc v, s.size ≠ 0 → acc.length < 17592186044416 → Ev (fun k => l0 k (s.extract (getv s).2.toNat s.size) (acc ++ [(getv s).1])) v → Ev (fun k => l0 k s acc) v) :
    ∀ (n : Nat) (s : ByteArray) (acc : List Int), s.size ≤ n → acc.length + s.size < 17592186044416 → Ev (fun k => l0 k s acc) (acc ++ runes s) := by
  intro n
  induction n with
  | zero =>
    intro s acc h _
    rw [runes_nil s (by omega), List.append_nil]
    exact h0 s acc (by omega)
  | succ n ih =>
    intro s acc h hl
    by_cases hs : s.size = 0
    · rw [runes_nil s hs, List.append_nil]; exact h0 s acc hs
    · have hb := getv_bounds s hs
      refine h1 s acc _ hs (by omega) (ev_eq (ih _ (acc ++ [(getv s).1]) (by rw [ext_size]; omega) (by rw [ext_size, List.length_append]; simp; omega)) ?_)
      rw [runes_cons s hs, List.append_assoc]; rfl
theorem spec_Runes_ev (s : ByteArray) (hs : s.size < 17592186044416) : Ev (fun k => spec_Runes.f k s) (runes s) := by
  unfold spec_Runes.f
  refine ev_eq (runes_go (l0 := fun k s acc => spec_Runes.l0 k s acc) ?_ ?_ s.size s [] (Nat.le_refl _) (by simpa using hs)) (List.nil_append _)
  · intro s acc h
    refine ev_succ ?_
    simp only [spec_Runes.l0]
    exact ev_pos ((str_nil s).mpr h) (Ev.now _)
  · intro s acc v h hl e
    have hb := getv_bounds s h
    refine ev_succ ?_
    simp only [spec_Runes.l0]
    exact ev_neg (fun x => h ((str_nil s).mp x)) (Ev.bind (spec_Get_ev s) (ev_pos hl (ev_pos (by omega) (ev_pos (by omega) e))))
theorem impl_Runes_ev (s : ByteArray) (hs : s.size < 17592186044416) : Ev (fun k => impl_Runes.f k s) (runes s) := by
  unfold impl_Runes.f
  refine ev_eq (runes_go (l0 := fun k s acc => impl_Runes.l0 k s acc) ?_ ?_ s.size s [] (Nat.le_refl _) (by simpa using hs)) (List.nil_append _)
  · intro s acc h
    refine ev_succ ?_
    simp only [impl_Runes.l0]
    exact ev_pos ((str_nil s).mpr h) (Ev.now _)
  · intro s acc v h hl e
    have hb := getv_bounds s h
    refine ev_succ ?_
    simp only [impl_Runes.l0]
    exact ev_neg (fun x => h ((str_nil s).mp x)) (ev_bind_of (impl_Get_eq s) (ev_pos hl (ev_pos (by omega) (ev_pos (by omega) e))))

def fixr (r : Int) : Int := if rok r then r else 65533
theorem fixr_ok (r : Int) : rok (fixr r) = true := by
  unfold fixr
  split
  · assumption
  · decide
def encs (l : List Int) : List Int := l.flatMap fun r => enc (fixr r)
theorem encs_nil : encs [] = [] := rfl
theorem encs_cons (r : Int) (l : List Int) : encs (r :: l) = enc (fixr r) ++ encs l := by simp [encs]
theorem encs_append (a b : List Int) : encs (a ++ b) = encs a ++ encs b := by simp [encs]
theorem encs_length : ∀ l : List Int, (encs l).length ≤ 4 * l.length
  | [] => by simp [encs]
  | r :: l => by
    have := encs_length l
    have := enc_length (fixr r)
    rw [encs_cons, List.length_append, List.length_cons]; omega

/-- Runes in bytes, one behind the other. -/
def flat8 (m : List Int) : List Int := m.flatMap enc
theorem flat8_nil : flat8 [] = [] := rfl
theorem flat8_cons (r : Int) (m : List Int) : flat8 (r :: m) = enc r ++ flat8 m := by simp [flat8]
theorem flat8_append (a b : List Int) : flat8 (a ++ b) = flat8 a ++ flat8 b := by simp [flat8]
theorem encs_flat8 (l : List Int) : encs l = flat8 (l.map fixr) := by simp [encs, flat8, List.flatMap_map]
theorem flat8_range {m : List Int} (hm : ∀ r ∈ m, rok r = true) : ∀ x ∈ flat8 m, 0 ≤ x ∧ x ≤ 255 := by
  intro x hx
  simp only [flat8, List.mem_flatMap] at hx
  obtain ⟨r, hr, hx⟩ := hx
  exact enc_byte (hm r hr) x hx
theorem flat8_length : ∀ m : List Int, (flat8 m).length ≤ 4 * m.length
  | [] => by simp [flat8]
  | r :: m => by
    have := flat8_length m
    have := enc_length r
    rw [flat8_cons, List.length_append, List.length_cons]; omega
theorem bn_str (bs : List Int) (i : Nat) (h : i < bs.length) (hb : 0 ≤ bs[i] ∧ bs[i] ≤ 255) : bn (strOfNums bs) i = (bs[i]).toNat := by
  have hs : i < (strOfNums bs).size := by rw [strOfNums_size]; exact h
  unfold bn
  rw [← bn_get _ _ hs]
  show ((strOfNums bs).data[i]'hs).toNat = _
  simp [strOfNums]; omega
theorem str_extract (bs : List Int) (a b : Nat) : (strOfNums bs).extract a b = strOfNums ((bs.take b).drop a) := by
  apply ByteArray.ext
  rw [ByteArray.data_extract]
  apply Array.toList_inj.mp
  simp [strOfNums, Array.toList_extract, List.extract_eq_take_drop, List.map_drop, List.map_take, List.drop_take]
theorem enc_parts {r : Int} (h : rok r = true) : ∃ x xs, enc r = x :: xs ∧ (x < 128 ∨ 192 ≤ x) ∧ ∀ y ∈ xs, 128 ≤ y ∧ y < 192 := by
  have := rok_iff.mp h
  unfold enc
  split
  · exact ⟨_, _, rfl, by omega, by simp⟩
  · split
    · refine ⟨_, _, rfl, by omega, fun y hy => ?_⟩
      simp only [List.mem_cons, List.not_mem_nil, or_false] at hy; omega
    · split
      · refine ⟨_, _, rfl, by omega, fun y hy => ?_⟩
        simp only [List.mem_cons, List.not_mem_nil, or_false] at hy; omega
      · refine ⟨_, _, rfl, by omega, fun y hy => ?_⟩
        simp only [List.mem_cons, List.not_mem_nil, or_false] at hy; omega
/-- What is put is got. -/
theorem getv_enc {r : Int} (h : rok r = true) (c : List Int) : getv (strOfNums (enc r ++ c)) = (r, ((enc r).length : Int)) := by
  have hr := rok_iff.mp h
  have hsz : (strOfNums (enc r ++ c)).size = (enc r).length + c.length := by rw [strOfNums_size, List.length_append]
  have hp := enc_pos r
  have hb : ∀ (i : Nat) (hi : i < (enc r).length), bn (strOfNums (enc r ++ c)) i = ((enc r)[i]).toNat := by
    intro i hi
    have he : (enc r ++ c)[i]'(by rw [List.length_append]; omega) = (enc r)[i] := List.getElem_append_left hi
    rw [bn_str _ i (by rw [List.length_append]; omega) (by rw [he]; exact enc_byte h _ (List.getElem_mem _)), he]
  unfold getv
  rw [if_neg (by omega)]
  unfold dcv
  have hd : ∀ n b0 b1 b2 b3 k v, Lib.decodeN n b0 b1 b2 b3 = (v, k) → (((Lib.decodeN n b0 b1 b2 b3).1 : Int), ((Lib.decodeN n b0 b1 b2 b3).2 : Int)) = ((v : Int), (k : Int)) := by
    intro n b0 b1 b2 b3 k v e; rw [e]
  by_cases c1 : r < 128
  · have e : enc r = [r] := by unfold enc; rw [if_pos c1]
    have h0 := hb 0 (by rw [e]; simp)
    rw [hd _ _ _ _ _ 1 r.toNat ?_]
    · rw [e]; simp; omega
    · simp only [e, List.getElem_cons_zero] at h0
      rw [e, h0, ← e]; unfold Lib.decodeN; rw [if_pos (by omega)]
  by_cases c2 : r < 2048
  · have e : enc r = [192 + r / 64, 128 + r % 64] := by unfold enc; rw [if_neg c1, if_pos c2]
    have hl : (enc r).length = 2 := by rw [e]; rfl
    have h0 := hb 0 (by omega)
    have h1 := hb 1 (by omega)
    simp only [e, List.getElem_cons_zero, List.getElem_cons_succ] at h0 h1
    rw [hd _ _ _ _ _ 2 r.toNat ?_]
    · rw [hl]; simp; omega
    · rw [e, h0, h1, ← e]; unfold Lib.decodeN
      rw [if_neg (by omega), if_pos (by omega), if_pos (by omega)]
      exact Prod.ext (by simp only; omega) rfl
  by_cases c3 : r < 65536
  · have e : enc r = [224 + r / 4096, 128 + r / 64 % 64, 128 + r % 64] := by unfold enc; rw [if_neg c1, if_neg c2, if_pos c3]
    have hl : (enc r).length = 3 := by rw [e]; rfl
    have h0 := hb 0 (by omega)
    have h1 := hb 1 (by omega)
    have h2 := hb 2 (by omega)
    simp only [e, List.getElem_cons_zero, List.getElem_cons_succ] at h0 h1 h2
    rw [hd _ _ _ _ _ 3 r.toNat ?_]
    · rw [hl]; simp; omega
    · rw [e, h0, h1, h2, ← e]; unfold Lib.decodeN
      rw [if_neg (by omega), if_neg (by omega), if_pos (by omega), if_pos (by omega)]
      exact Prod.ext (by simp only; omega) rfl
  · have e : enc r = [240 + r / 262144, 128 + r / 4096 % 64, 128 + r / 64 % 64, 128 + r % 64] := by unfold enc; rw [if_neg c1, if_neg c2, if_neg c3]
    have hl : (enc r).length = 4 := by rw [e]; rfl
    have h0 := hb 0 (by omega)
    have h1 := hb 1 (by omega)
    have h2 := hb 2 (by omega)
    have h3 := hb 3 (by omega)
    simp only [e, List.getElem_cons_zero, List.getElem_cons_succ] at h0 h1 h2 h3
    rw [hd _ _ _ _ _ 4 r.toNat ?_]
    · rw [hl]; simp; omega
    · rw [e, h0, h1, h2, h3, ← e]; unfold Lib.decodeN
      rw [if_neg (by omega), if_neg (by omega), if_neg (by omega), if_pos (by omega), if_pos (by omega)]
      exact Prod.ext (by simp only; omega) rfl
theorem runes_flat8 : ∀ m : List Int, (∀ r ∈ m, rok r = true) → runes (strOfNums (flat8 m)) = m
  | [], _ => runes_nil _ (by rw [flat8_nil, strOfNums_size]; rfl)
  | r :: m, h => by
    have hr := h r (by simp)
    have hp := enc_pos r
    have hs : (strOfNums (flat8 (r :: m))).size ≠ 0 := by rw [flat8_cons, strOfNums_size, List.length_append]; omega
    have hg : getv (strOfNums (flat8 (r :: m))) = (r, ((enc r).length : Int)) := by rw [flat8_cons]; exact getv_enc hr _
    rw [runes_cons _ hs, hg]
    have hx : (strOfNums (flat8 (r :: m))).extract ((enc r).length : Int).toNat (strOfNums (flat8 (r :: m))).size = strOfNums (flat8 m) := by
      rw [str_extract, strOfNums_size, List.take_length, Int.toNat_natCast, flat8_cons, List.drop_left]
    show r :: runes _ = r :: m
    rw [hx, runes_flat8 m (fun x hx => h x (by simp [hx]))]

def wid (r : Int) : Int :=
  if rok r = false ∨ r < 32 ∨ (127 ≤ r ∧ r ≤ 159) ∨ (768 ≤ r ∧ r ≤ 879) then 0
  else if (4352 ≤ r ∧ r ≤ 4447) ∨ (12288 ≤ r ∧ r ≤ 55295) ∨ (127744 ≤ r ∧ r ≤ 131071) then 2 else 1
theorem wid_range (r : Int) : 0 ≤ wid r ∧ wid r ≤ 2 := by
  unfold wid
  repeat' split
  all_goals omega

set_option maxRecDepth 100000 in
set_option maxHeartbeats 4000000 in
theorem decodeN_cut (n m b0 b1 b2 b3 c1 c2 c3 : Nat) (hm : 1 ≤ m) (hmn : m ≤ n) (h1 : 1 < m → c1 = b1) (h2 : 2 < m → c2 = b2) (h3 : 3 < m → c3 = b3) (hw : (Lib.decodeN n b0 b1 b2 b3).2 ≤ m) : Lib.decodeN m b0 c1 c2 c3 = Lib.decodeN n b0 b1 b2 b3 := by
  have hc : m = 1 ∨ m = 2 ∨ m = 3 ∨ 4 ≤ m := by omega
  revert hw
  unfold Lib.decodeN
  rcases hc with rfl | rfl | rfl | hc
  · repeat' split
    all_goals (intro hw; first | rfl | (exfalso; simp only at hw; omega) | (exfalso; omega))
  · obtain rfl := h1 (by omega)
    repeat' split
    all_goals (intro hw; first | rfl | (exfalso; simp only at hw; omega) | (exfalso; omega))
  · obtain rfl := h1 (by omega)
    obtain rfl := h2 (by omega)
    repeat' split
    all_goals (intro hw; first | rfl | (exfalso; simp only at hw; omega) | (exfalso; omega))
  · obtain rfl := h1 (by omega)
    obtain rfl := h2 (by omega)
    obtain rfl := h3 (by omega)
    repeat' split
    all_goals (intro hw; first | rfl | (exfalso; simp only at hw; omega) | (exfalso; omega))
theorem bn_ext0 (s : ByteArray) (m i : Nat) (h : i < m) (hm : m ≤ s.size) : bn (s.extract 0 m) i = bn s i := by
  have hi : i < (s.extract 0 m).size := by rw [ByteArray.size_extract]; omega
  unfold bn
  rw [← bn_get _ _ hi, ← bn_get s i (by omega), ByteArray.getElem_extract]
  simp
theorem getv_cut (s : ByteArray) (m : Nat) (hm : m ≤ s.size) (h1 : 1 ≤ m) (hw : (getv s).2 ≤ (m : Int)) : getv (s.extract 0 m) = getv s := by
  have hz : (s.extract 0 m).size = m := by rw [ByteArray.size_extract]; omega
  have hs : s.size ≠ 0 := by omega
  unfold getv at hw ⊢
  rw [if_neg hs] at hw ⊢
  rw [if_neg (by omega)]
  have hd : dcv (s.extract 0 m) = dcv s := by
    unfold dcv
    rw [hz, bn_ext0 s m 0 (by omega) hm]
    refine decodeN_cut s.size m _ _ _ _ _ _ _ h1 hm (fun h => bn_ext0 s m 1 h hm) (fun h => bn_ext0 s m 2 h hm) (fun h => bn_ext0 s m 3 h hm) ?_
    have : ((dcv s).2 : Int) ≤ (m : Int) := hw
    unfold dcv at this
    omega
  rw [hd]
theorem ext_ext (s : ByteArray) (a b c d : Nat) : (s.extract a b).extract c d = s.extract (a + c) (min (a + d) b) := by
  rw [ByteArray.extract_extract]
/-- p parts a text between two runes. -/
def Bd (s : ByteArray) (p : Nat) : Prop := p ≤ s.size ∧ ∀ q, p ≤ q → q ≤ s.size → runes (s.extract 0 q) = runes (s.extract 0 p) ++ runes (s.extract p q)
theorem ext_none (s : ByteArray) (p : Nat) : runes (s.extract p p) = [] := runes_nil _ (by rw [ByteArray.size_extract]; omega)
theorem Bd_zero (s : ByteArray) : Bd s 0 := ⟨Nat.zero_le _, fun q _ _ => by rw [ext_none]; rfl⟩
theorem ext_full (s : ByteArray) : s.extract 0 s.size = s := by
  refine ByteArray.ext_getElem (by rw [ByteArray.size_extract]; omega) (fun i h1 h2 => ?_)
  rw [ByteArray.getElem_extract]; simp
theorem Bd_step {s : ByteArray} {p : Nat} (h : Bd s p) (hp : p < s.size) : Bd s (p + (getv (s.extract p s.size)).2.toNat) ∧ p + (getv (s.extract p s.size)).2.toNat ≤ s.size ∧
    runes (s.extract 0 (p + (getv (s.extract p s.size)).2.toNat)) = runes (s.extract 0 p) ++ [(getv (s.extract p s.size)).1] := by
  have hz : (s.extract p s.size).size = s.size - p := ext_size s p
  have hb := getv_bounds (s.extract p s.size) (by omega)
  obtain ⟨n, hn⟩ := Int.eq_ofNat_of_zero_le (show 0 ≤ (getv (s.extract p s.size)).2 by omega)
  rw [hn] at hb ⊢
  rw [Int.toNat_natCast]
  have step : ∀ q, p + n ≤ q → q ≤ s.size → runes (s.extract 0 q) = runes (s.extract 0 p) ++ ((getv (s.extract p s.size)).1 :: runes (s.extract (p + n) q)) := by
    intro q h1 h2
    rw [h.2 q (by omega) h2]
    have hq : s.extract p q = (s.extract p s.size).extract 0 (q - p) := by
      rw [ext_ext, Nat.add_zero, show min (p + (q - p)) s.size = q by omega]
    have hg : getv (s.extract p q) = getv (s.extract p s.size) := by
      rw [hq]
      exact getv_cut _ _ (by omega) (by omega) (by rw [hn]; omega)
    have hzq : (s.extract p q).size = q - p := by rw [ByteArray.size_extract]; omega
    rw [runes_cons (s.extract p q) (by omega), hg, hn, Int.toNat_natCast, hzq, ext_ext, show min (p + (q - p)) q = q by omega]
  have h0 := step (p + n) (Nat.le_refl _) (by omega)
  rw [ext_none] at h0
  refine ⟨⟨by omega, fun q h1 h2 => ?_⟩, by omega, h0⟩
  rw [step q h1 h2, h0, List.append_assoc]
  rfl
/-- How wide a row of runes is. -/
def sw : List Int → Int
  | [] => 0
  | r :: l => wid r + sw l
theorem sw_append (a b : List Int) : sw (a ++ b) = sw a + sw b := by
  induction a with
  | nil => simp [sw]
  | cons r a ih => simp only [List.cons_append, sw, ih]; omega
theorem sw_range (l : List Int) : 0 ≤ sw l ∧ sw l ≤ 2 * l.length := by
  induction l with
  | nil => simp [sw]
  | cons r l ih =>
    have := wid_range r
    simp only [sw, List.length_cons]; omega

theorem full_rune (n m b0 b1 b2 b3 c1 c2 c3 : Nat) (hm : 1 ≤ m) (hmn : m ≤ n) (h1 : 1 < m → c1 = b1) (h2 : 2 < m → c2 = b2) (h3 : m ≤ 3)
    (hf : Lib.firstT b0 % 8 ≤ m ∨ (1 < m ∧ (c1 < Lib.accLo (Lib.firstT b0 / 16) ∨ Lib.accHi (Lib.firstT b0 / 16) < c1)) ∨ (2 < m ∧ (c2 < 128 ∨ 191 < c2))) (hb0 : b0 < 256) (hb1 : b1 < 256) (hb2 : b2 < 256) (hb3 : b3 < 256) :
    (Lib.decodeN n b0 b1 b2 b3).2 ≤ m := by
  have hF := firstT_spec b0
  generalize Lib.firstT b0 = F at hF hf
  unfold Lib.decodeN
  by_cases q0 : b0 < 128
  · rw [if_pos q0]; exact hm
  rw [if_neg q0]
  by_cases q1 : b0 / 32 = 6 ∧ (1 < n ∧ b1 / 64 = 2)
  · rw [if_pos q1]
    split
    · simp only
      rcases hF (by omega) (by omega) with ⟨_, rfl⟩ | ⟨_, _, rfl⟩ | ⟨_, rfl⟩ | ⟨_, _, rfl⟩ | ⟨_, rfl⟩ | ⟨_, _, rfl⟩ | ⟨_, rfl⟩ | ⟨_, _, rfl⟩ | ⟨_, rfl⟩ | ⟨_, rfl⟩ <;> omega
    · exact hm
  rw [if_neg q1]
  by_cases q2 : b0 / 16 = 14 ∧ (1 < n ∧ b1 / 64 = 2) ∧ (2 < n ∧ b2 / 64 = 2)
  · rw [if_pos q2]
    split
    · simp only
      rcases hF (by omega) (by omega) with ⟨_, rfl⟩ | ⟨_, _, rfl⟩ | ⟨_, rfl⟩ | ⟨_, _, rfl⟩ | ⟨_, rfl⟩ | ⟨_, _, rfl⟩ | ⟨_, rfl⟩ | ⟨_, _, rfl⟩ | ⟨_, rfl⟩ | ⟨_, rfl⟩ <;>
        simp only [Lib.accLo, Lib.accHi, Nat.reduceDiv, Nat.reduceMod, Nat.reduceEqDiff, if_true, if_false] at hf <;> omega
    · exact hm
  rw [if_neg q2]
  by_cases q3 : b0 / 8 = 30 ∧ (1 < n ∧ b1 / 64 = 2) ∧ (2 < n ∧ b2 / 64 = 2) ∧ (3 < n ∧ b3 / 64 = 2)
  · rw [if_pos q3]
    split
    · simp only
      rcases hF (by omega) (by omega) with ⟨_, rfl⟩ | ⟨_, _, rfl⟩ | ⟨_, rfl⟩ | ⟨_, _, rfl⟩ | ⟨_, rfl⟩ | ⟨_, _, rfl⟩ | ⟨_, rfl⟩ | ⟨_, _, rfl⟩ | ⟨_, rfl⟩ | ⟨_, rfl⟩ <;>
        simp only [Lib.accLo, Lib.accHi, Nat.reduceDiv, Nat.reduceMod, Nat.reduceEqDiff, if_true, if_false] at hf <;> omega
    · exact hm
  rw [if_neg q3]; exact hm
theorem full_width (u : ByteArray) (m : Nat) (hm : m ≤ u.size) (h1 : 1 ≤ m) (hb : begunv (u.extract 0 m) = false) : (getv u).2 ≤ (m : Int) := by
  have hz : (u.extract 0 m).size = m := by rw [ByteArray.size_extract]; omega
  have hg := getv_bounds u (by omega)
  by_cases h3 : m ≤ 3
  · unfold begunv at hb
    rw [hz, if_neg (by omega), if_pos h3] at hb
    have hf : fullv (u.extract 0 m) = true := by simpa using hb
    rw [fullv_iff _ (by omega), hz, bn_ext0 u m 0 (by omega) hm] at hf
    have := full_rune u.size m (bn u 0) (bn u 1) (bn u 2) (bn u 3) (bn (u.extract 0 m) 1) (bn (u.extract 0 m) 2) 0 h1 hm (fun h => bn_ext0 u m 1 h hm) (fun h => bn_ext0 u m 2 h hm) h3 hf (bn_lt _ _) (bn_lt _ _) (bn_lt _ _) (bn_lt _ _)
    unfold getv
    rw [if_neg (by omega)]
    show ((dcv u).2 : Int) ≤ m
    unfold dcv
    omega
  · omega
/-- What is fed is told as far as a rune's bytes end. -/
theorem fedv_bd (s : ByteArray) : ∀ (f p q : Nat) (o : List Int), Bd s p → p ≤ q → q ≤ s.size → q - p ≤ f →
    ∃ p' d, p ≤ p' ∧ p' ≤ q ∧ Bd s p' ∧ fedv f (s.extract p q) o = (s.extract p' q, o ++ d) ∧ runes (s.extract 0 p') = runes (s.extract 0 p) ++ d
  | 0, p, q, o, h, h1, h2, h3 => ⟨p, [], Nat.le_refl _, h1, h, by simp [fedv], by simp⟩
  | f + 1, p, q, o, h, h1, h2, h3 => by
    unfold fedv
    by_cases hb : begunv (s.extract p q) = true
    · rw [if_pos hb]
      exact ⟨p, [], Nat.le_refl _, h1, h, by simp, by simp⟩
    · rw [if_neg hb]
      have hp := begunv_pos _ hb
      have hz : (s.extract p q).size = q - p := by rw [ByteArray.size_extract]; omega
      have hzs : (s.extract p s.size).size = s.size - p := ext_size s p
      have hq : s.extract p q = (s.extract p s.size).extract 0 (q - p) := by
        rw [ext_ext, Nat.add_zero, show min (p + (q - p)) s.size = q by omega]
      have hw : (getv (s.extract p s.size)).2 ≤ ((q - p : Nat) : Int) := full_width _ _ (by omega) (by omega) (by rw [← hq]; exact Bool.eq_false_iff.mpr hb)
      have hg : getv (s.extract p q) = getv (s.extract p s.size) := by
        rw [hq]
        exact getv_cut _ _ (by omega) (by omega) hw
      obtain ⟨b1, b2, b3⟩ := Bd_step h (by omega)
      have hgb := getv_bounds (s.extract p s.size) (by omega)
      rw [hg, hz]
      generalize getv (s.extract p s.size) = g at *
      obtain ⟨n, hn⟩ := Int.eq_ofNat_of_zero_le (show 0 ≤ g.2 by omega)
      rw [hn] at b1 b2 b3 hw hgb ⊢
      rw [Int.toNat_natCast] at b1 b2 b3 ⊢
      rw [ext_ext, show min (p + (q - p)) q = q by omega]
      obtain ⟨p', d, c1, c2, c3, c4, c5⟩ := fedv_bd s f (p + n) q (o ++ [g.1]) b1 (by omega) h2 (by omega)
      exact ⟨p', g.1 :: d, by omega, c2, c3, by rw [c4, List.append_assoc]; rfl, by rw [c5, b3, List.append_assoc]; rfl⟩
theorem ext_push (s : ByteArray) (p j : Nat) (hp : p ≤ j) (hj : j < s.size) : s.extract p j ++ strOfNums [bt s (j : Int)] = s.extract p (j + 1) := by
  have h1 : strOfNums [bt s (j : Int)] = s.extract j (j + 1) := by
    refine ByteArray.ext_getElem (by rw [ByteArray.size_extract, strOfNums_size]; simp only [List.length_singleton]; omega) (fun i h1 h2 => ?_)
    rw [strOfNums_size] at h1
    have hi : i = 0 := by simp only [List.length_singleton] at h1; omega
    subst hi
    rw [ByteArray.getElem_extract]
    apply UInt8.toNat_inj.mp
    have h0 : 0 < [bt s (j : Int)].length := by simp
    have hr : 0 ≤ bt s (j : Int) ∧ bt s (j : Int) ≤ 255 := by rw [bn_bt s j hj]; have := bn_lt s j; omega
    have e1 := bn_str [bt s (j : Int)] 0 h0 hr
    have e2 := bn_bt s j hj
    have e3 : ∀ (u : ByteArray) (i : Nat) (h : i < u.size), u[i].toNat = bn u i := fun u i h => by unfold bn; rw [bn_get u i h]
    rw [e3, e3, e1, List.getElem_cons_zero, e2, Nat.add_zero]
    omega
  rw [h1, ByteArray.extract_append_extract, show min p j = p by omega, show max j (j + 1) = j + 1 by omega]
theorem feedv_bd (s : ByteArray) (p j : Nat) (hp : p ≤ j) (hj : j < s.size) (h : Bd s p) (hb : begunv (s.extract p j) = true) :
    ∃ p' d, p ≤ p' ∧ p' ≤ j + 1 ∧ Bd s p' ∧ feedv (s.extract p j) (bt s (j : Int)) = (s.extract p' (j + 1), d) ∧ runes (s.extract 0 p') = runes (s.extract 0 p) ++ d := by
  unfold feedv
  rw [if_pos hb, ext_push s p j hp hj]
  obtain ⟨p', d, c1, c2, c3, c4, c5⟩ := fedv_bd s (s.extract p (j + 1)).size p (j + 1) [] h (by omega) (by omega) (by rw [ByteArray.size_extract]; omega)
  exact ⟨p', d, c1, c2, c3, by rw [c4]; rfl, c5⟩

theorem and255 (x : Int) : 0 ≤ Go.bits .and .i64 x 255 ∧ Go.bits .and .i64 x 255 ≤ 255 := by
  have h : ((BitVec.ofInt 64 x &&& BitVec.ofInt 64 255).toNat : Int) ≤ 255 := by
    rw [BitVec.toNat_and]
    have : (BitVec.ofInt 64 x).toNat &&& (BitVec.ofInt 64 255).toNat ≤ (BitVec.ofInt 64 255).toNat := Nat.and_le_right
    have e : (BitVec.ofInt 64 255).toNat = 255 := by decide
    omega
  have w : Go.bits .and .i64 x 255 = IntKind.i64.wrap ((BitVec.ofInt 64 x &&& BitVec.ofInt 64 255).toNat : Int) := rfl
  rw [w, IntKind.wrap_i64]
  omega
/-- A draw's byte. -/
theorem spec_l1Byte_some (b : List Int) (hb : b.length < 4611686018427387904) (i h : Int) (hi : 0 ≤ i) :
    ∃ v i' h', spec_l1Byte.f b i h = some (v, i', h') ∧ 0 ≤ v ∧ v ≤ 255 ∧ 0 ≤ i' := by
  unfold spec_l1Byte.f
  by_cases c : i < (b.length : Int)
  · rw [if_pos c, if_pos hi]
    exact ⟨_, _, _, rfl, (and255 _).1, (and255 _).2, by rw [w64 (by omega) (by omega)]; omega⟩
  · rw [if_neg c]
    exact ⟨_, _, _, rfl, (and255 _).1, (and255 _).2, hi⟩
theorem spec_l1Below_some (b : List Int) (hb : b.length < 4611686018427387904) (i h n : Int) (hi : 0 ≤ i) (hn : n < 4611686018427387904) :
    ∃ v i' h', spec_l1Below.f b i h n = some (v, i', h') ∧ 0 ≤ v ∧ (v < n ∨ (n ≤ 0 ∧ v = 0)) ∧ 0 ≤ i' := by
  unfold spec_l1Below.f
  by_cases c : n ≤ 0
  · rw [if_pos c]; exact ⟨0, i, h, rfl, by omega, .inr ⟨c, rfl⟩, hi⟩
  · rw [if_neg c]
    by_cases c2 : n ≤ 256
    · rw [if_pos c2]
      obtain ⟨v, i', h', e, h0, h1, h2⟩ := spec_l1Byte_some b hb i h hi
      rw [e]
      simp only [Option.bind_some]
      rw [if_neg (by omega), Int.tmod_eq_emod_of_nonneg h0]
      exact ⟨_, _, _, rfl, Int.emod_nonneg _ (by omega), .inl (Int.emod_lt_of_pos _ (by omega)), h2⟩
    · rw [if_neg c2]
      obtain ⟨x, i1, h1, e1, x0, x1, j1⟩ := spec_l1Byte_some b hb i h hi
      obtain ⟨y, i2, h2, e2, y0, y1, j2⟩ := spec_l1Byte_some b hb i1 h1 j1
      obtain ⟨z, i3, h3, e3, z0, z1, j3⟩ := spec_l1Byte_some b hb i2 h2 j2
      obtain ⟨u, i4, h4, e4, u0, u1, j4⟩ := spec_l1Byte_some b hb i3 h3 j3
      rw [e1]; simp only [Option.bind_some]
      rw [e2]; simp only [Option.bind_some]
      rw [e3]; simp only [Option.bind_some]
      rw [e4]; simp only [Option.bind_some]
      rw [if_neg (by omega), w64 (x := x * 16777216) (by omega) (by omega), w64 (x := y * 65536) (by omega) (by omega), w64 (x := z * 256) (by omega) (by omega), w64 (x := x * 16777216 + y * 65536) (by omega) (by omega),
        w64 (x := x * 16777216 + y * 65536 + z * 256) (by omega) (by omega), w64 (x := x * 16777216 + y * 65536 + z * 256 + u) (by omega) (by omega), Int.tmod_eq_emod_of_nonneg (by omega)]
      exact ⟨_, _, _, rfl, Int.emod_nonneg _ (by omega), .inl (Int.emod_lt_of_pos _ (by omega)), j4⟩

theorem spec_l1Once_some (b : List Int) (hb : b.length < 4611686018427387904) (i h n : Int) (hi : 0 ≤ i) (hn : n < 4611686018427387904) :
    ∃ v i' h', spec_l1Once.f b i h n = some (v, i', h') ∧ 0 ≤ i' := by
  unfold spec_l1Once.f
  obtain ⟨v, i', h', e, _, _, h2⟩ := spec_l1Below_some b hb i h n hi hn
  rw [e]
  exact ⟨_, _, _, rfl, h2⟩

theorem spec_l1New_some (l : List Int) (hl : l.length < 4611686018427387904) : ∃ h, Ev (fun k => spec_l1New.f k l) (l, 0, h) := by
  have go : ∀ (d i : Nat) (x : Int), i + d = l.length → ∃ h, Ev (fun k => spec_l1New.l0 k l x (i : Int)) (l, 0, h) := by
    intro d
    induction d with
    | zero =>
      intro i x h
      refine ⟨x, ev_succ ?_⟩
      simp only [spec_l1New.l0]
      exact ev_neg (by omega) (Ev.now _)
    | succ d ih =>
      intro i x h
      obtain ⟨h', e⟩ := ih (i + 1) (Go.bits .and .i64 (wrap64 ((wrap64 ((wrap64 (x * 137)) + (wrap64 (rd l (i : Int))))) + 11)) 1073741823) (by omega)
      refine ⟨h', ev_succ ?_⟩
      simp only [spec_l1New.l0, w64 (x := (i : Int) + 1) (by omega) (by omega)]
      exact ev_pos (by omega) (ev_pos (by omega) e)
  exact go l.length 0 _ (by omega)

theorem spec_l1DrawRune_some (b : List Int) (hb : b.length < 4611686018427387904) (i h : Int) (hi : 0 ≤ i) : ∃ v i' h', spec_l1DrawRune.f b i h = some (v, i', h') ∧ 0 ≤ i' := by
  unfold spec_l1DrawRune.f
  obtain ⟨v, i1, h1, e, v0, v1, j1⟩ := spec_l1Below_some b hb i h 12 hi (by omega)
  rw [Option.bind_some, e]
  simp only [Option.bind_some]
  rw [if_pos v0, if_pos (by simp; omega)]
  exact ⟨_, _, _, rfl, j1⟩

theorem spec_l1DrawRunes_some (b : List Int) (hb : b.length < 4611686018427387904) (i h : Int) (hi : 0 ≤ i) :
    ∃ l i' h', Ev (fun k => spec_l1DrawRunes.f k b i h) (l, i', h') ∧ l.length ≤ 8 ∧ 0 ≤ i' := by
  have go : ∀ (d : Nat) (l : List Int) (i h : Int), 0 ≤ i → l.length + d ≤ 8 → ∃ l' i' h', Ev (fun k => spec_l1DrawRunes.l0 k l (d : Int) b i h) (l', i', h') ∧ l'.length ≤ 8 ∧ 0 ≤ i' := by
    intro d
    induction d with
    | zero =>
      intro l i h hi hl
      refine ⟨l, i, h, ev_succ ?_, by omega, hi⟩
      simp only [spec_l1DrawRunes.l0]
      exact ev_neg (by omega) (Ev.now _)
    | succ d ih =>
      intro l i h hi hl
      obtain ⟨v, i1, h1, e, j1⟩ := spec_l1DrawRune_some b hb i h hi
      obtain ⟨l', i', h', e', hl', hi'⟩ := ih (l ++ [v]) i1 h1 j1 (by simp; omega)
      refine ⟨l', i', h', ev_succ ?_, hl', hi'⟩
      simp only [spec_l1DrawRunes.l0, e, Option.bind_some, show (((d + 1 : Nat) : Int) - 1) = (d : Int) by omega, w64 (x := (d : Int)) (by omega) (by omega)]
      exact ev_pos (by omega) (ev_pos (by omega) e')
  unfold spec_l1DrawRunes.f
  obtain ⟨v, i1, h1, e, v0, v1, j1⟩ := spec_l1Below_some b hb i h 9 hi (by omega)
  rw [e]
  simp only [Option.bind_some]
  obtain ⟨d, rfl⟩ : ∃ d : Nat, v = d := ⟨v.toNat, by omega⟩
  exact go d [] i1 h1 j1 (by simp; omega)

theorem spec_Text_ev (l : List Int) (hl : l.length < 17592186044416) : Ev (fun k => spec_Text.f k l) (strOfNums (encs l)) := by
  have go : ∀ (d i : Nat) (acc : List Int), i + d = l.length → acc.length ≤ 4 * i → Ev (fun k => spec_Text.l0 k l acc (i : Int)) (strOfNums (acc ++ encs (l.drop i))) := by
    intro d
    induction d with
    | zero =>
      intro i acc h ha
      refine ev_succ ?_
      simp only [spec_Text.l0]
      refine ev_neg (by omega) ?_
      rw [List.drop_of_length_le (by omega), encs_nil, List.append_nil]
      exact Ev.now _
    | succ d ih =>
      intro i acc h ha
      refine ev_succ ?_
      have hr : rd l (i : Int) = l[i]'(by omega) := rd_at (by omega)
      simp only [spec_Text.l0, w64 (x := (i : Int) + 1) (by omega) (by omega), spec_RuneOk_eq, Option.bind_some]
      refine ev_pos (by omega) (ev_pos (by omega) ?_)
      have hn : Ev (fun k => spec_Text.l0 k l (acc ++ enc (fixr (rd l (i : Int)))) ((i : Int) + 1)) (strOfNums (acc ++ encs (l.drop i))) := by
        have := ih (i + 1) (acc ++ enc (fixr (rd l (i : Int)))) (by omega) (by have := enc_length (fixr (rd l (i : Int))); rw [List.length_append]; omega)
        refine ev_eq this ?_
        rw [show l.drop i = l[i]'(by omega) :: l.drop (i + 1) from List.drop_eq_getElem_cons (by omega), encs_cons, hr, List.append_assoc]
      have hle := enc_length (fixr (rd l (i : Int)))
      by_cases c : rok (rd l (i : Int)) = true
      · refine ev_pos c (ev_bind_of (spec_l1Put_eq c) ?_)
        have e : fixr (rd l (i : Int)) = rd l (i : Int) := by unfold fixr; rw [if_pos c]
        rw [e] at hn hle
        exact ev_pos (by omega) hn
      · refine ev_neg c (ev_bind_of (spec_l1Put_eq (by decide)) ?_)
        have e : fixr (rd l (i : Int)) = 65533 := by unfold fixr; rw [if_neg c]
        rw [e] at hn hle
        exact ev_pos (by omega) hn
  exact go l.length 0 [] (by omega) (by simp)

theorem strOfNums_sz (l : List Int) : (strOfNums l).size = l.length := strOfNums_size l
theorem spec_l1DrawBytes_some (b : List Int) (hb : b.length < 4611686018427387904) (i h : Int) (hi : 0 ≤ i) : ∃ s i' h', Ev (fun k => spec_l1DrawBytes.f k b i h) (s, i', h') ∧ s.size ≤ 40 ∧ 0 ≤ i' := by
  have go : ∀ (d : Nat) (x : List Int) (i h : Int), d ≤ 3 → x.length + d ≤ 40 → 0 ≤ i → ∃ s i' h', Ev (fun k => spec_l1DrawBytes.l0 k x (d : Int) b i h) (s, i', h') ∧ s.size ≤ 40 ∧ 0 ≤ i' := by
    intro d
    induction d with
    | zero =>
      intro x i h _ hx hi
      by_cases hp : (x.length : Int) > 0
      · obtain ⟨o, i1, h1, e1, j1⟩ := spec_l1Once_some b hb i h 2 hi (by omega)
        cases o with
        | true =>
          obtain ⟨v, i2, h2, e2, v0, v1, j2⟩ := spec_l1Below_some b hb i1 h1 (x.length : Int) j1 (by omega)
          refine ⟨strOfNums (x.drop v.toNat ++ x.take v.toNat), i2, h2, ev_succ ?_, ?_, j2⟩
          · simp only [spec_l1DrawBytes.l0, e1, e2, Option.bind_some, List.nil_append]
            refine ev_neg (by omega) (ev_pos hp (ev_pos (by trivial) (ev_pos v0 (ev_pos (by omega) (ev_pos ?_ (ev_pos ?_ (Ev.now _)))))))
            · rw [List.length_nil, List.length_drop]; omega
            · rw [List.length_drop, List.length_take]; omega
          · rw [strOfNums_sz, List.length_append, List.length_drop, List.length_take]; omega
        | false =>
          refine ⟨strOfNums x, i1, h1, ev_succ ?_, by rw [strOfNums_sz]; omega, j1⟩
          simp only [spec_l1DrawBytes.l0, e1, Option.bind_some]
          exact ev_neg (by omega) (ev_pos hp (ev_neg (by simp) (Ev.now _)))
      · refine ⟨strOfNums x, i, h, ev_succ ?_, by rw [strOfNums_sz]; omega, hi⟩
        simp only [spec_l1DrawBytes.l0]
        exact ev_neg (by omega) (ev_neg hp (Ev.now _))
    | succ d ih =>
      intro x i h hd hx hi
      obtain ⟨u, i1, h1, e1, u0, u1, j1⟩ := spec_l1Byte_some b hb i h hi
      obtain ⟨v, i2, h2, e2, v0, v1, j2⟩ := spec_l1Below_some b hb i1 h1 9 j1 (by omega)
      obtain ⟨s, i', h', e', hs, hi'⟩ := ih (x ++ [rd [128, 194, 228, 240, 255, 237, 160, 192, u % 256] v]) i2 h2 (by omega) (by rw [List.length_append, List.length_singleton]; omega) j2
      have wd : ∀ _ : Unit, wrap64 (((d + 1 : Nat) : Int) - 1) = (d : Int) := fun _ => by rw [w64 (by omega) (by omega)]; omega
      refine ⟨s, i', h', ev_succ ?_, hs, hi'⟩
      simp only [spec_l1DrawBytes.l0, e1, e2, Option.bind_some, wd ()]
      exact ev_pos (by omega) (ev_pos v0 (ev_pos (by simp only [List.length_cons, List.length_nil]; omega) (ev_pos (by omega) e')))
  obtain ⟨m, i1, h1, e1, hm, j1⟩ := spec_l1DrawRunes_some b hb i h hi
  have et := spec_Text_ev m (by omega)
  have hz : (strOfNums (encs m)).size ≤ 32 := by have := encs_length m; rw [strOfNums_sz]; omega
  obtain ⟨o, i2, h2, e2, j2⟩ := spec_l1Once_some b hb i1 h1 2 j1 (by omega)
  unfold spec_l1DrawBytes.f
  cases o with
  | false => exact ⟨_, i2, h2, Ev.bind e1 (Ev.bind et (ev_bind_of e2 (ev_neg (by simp) (Ev.now _)))), by omega, j2⟩
  | true =>
    have eb : spec_bytesOf.f (strOfNums (encs m)) = some (bytesOf (strOfNums (encs m))) := by
      unfold spec_bytesOf.f; rw [if_pos (by omega)]
    obtain ⟨v, i3, h3, e3, v0, v1, j3⟩ := spec_l1Below_some b hb i2 h2 3 j2 (by omega)
    obtain ⟨d, rfl⟩ := Int.eq_ofNat_of_zero_le v0
    obtain ⟨s, i', h', e', hs, hi'⟩ := go d (bytesOf (strOfNums (encs m))) i3 h3 (by omega) (by rw [bytesOf_length]; omega) j3
    exact ⟨s, i', h', Ev.bind e1 (Ev.bind et (ev_bind_of e2 (ev_pos rfl (ev_bind_of eb (ev_bind_of e3 e'))))), hs, hi'⟩
theorem spec_DrawGet_some (l : List Int) (hl : l.length < 4611686018427387904) : ∃ s, Ev (fun k => spec_DrawGet.f k l) s ∧ s.size ≤ 40 := by
  obtain ⟨h, e0⟩ := spec_l1New_some l hl
  obtain ⟨s, i1, h1, e1, hs, j1⟩ := spec_l1DrawBytes_some l hl 0 h (by omega)
  unfold spec_DrawGet.f
  exact ⟨s, Ev.bind e0 (Ev.bind e1 (Ev.now _)), hs⟩

theorem laws_likeInts_ev (a b : List Int) (ha : a.length < 9223372036854775807) : Ev (fun k => laws_likeInts.f k a b) (decide (a = b)) := by
  unfold laws_likeInts.f
  by_cases hl : a.length = b.length
  · refine ev_pos (by omega) ?_
    have go : ∀ (d i : Nat), i + d = a.length → a.take i = b.take i → Ev (fun k => laws_likeInts.l0 k a b (i : Int)) (decide (a = b)) := by
      intro d
      induction d with
      | zero =>
        intro i h e
        refine ev_succ ?_
        simp only [laws_likeInts.l0]
        refine ev_neg (by omega) ?_
        rw [List.take_of_length_le (by omega), List.take_of_length_le (by omega)] at e
        rw [decide_eq_true e]
        exact Ev.now _
      | succ d ih =>
        intro i h e
        refine ev_succ ?_
        simp only [laws_likeInts.l0, w64 (x := (i : Int) + 1) (by omega) (by omega)]
        refine ev_pos (by omega) (ev_pos (by omega) (ev_pos (by omega) ?_))
        by_cases c : rd a (i : Int) = rd b (i : Int)
        · refine ev_pos c (ih (i + 1) (by omega) ?_)
          rw [rd_at (by omega), rd_at (by omega)] at c
          rw [List.take_succ_eq_append_getElem (by omega), List.take_succ_eq_append_getElem (by omega), e, c]
        · refine ev_neg c ?_
          rw [decide_eq_false (fun x => c (by rw [x]))]
          exact Ev.now _
    exact go a.length 0 (by omega) rfl
  · refine ev_neg (by omega) ?_
    rw [decide_eq_false (fun x => hl (by rw [x]))]
    exact Ev.now _
theorem laws_likeInts_self (a : List Int) (ha : a.length < 9223372036854775807) : Ev (fun k => laws_likeInts.f k a a) true := ev_eq (laws_likeInts_ev a a ha) (decide_eq_true rfl)

theorem ev_unique {α : Type} {g : Nat → Option α} {a b : α} (h1 : Ev g a) (h2 : Ev g b) : a = b := by
  obtain ⟨K, h1⟩ := h1
  obtain ⟨L, h2⟩ := h2
  exact Option.some.inj ((h1 (K + L) (by omega)).symm.trans (h2 (K + L) (by omega)))
theorem no_bytes : ((⟨#[]⟩ : ByteArray).toList != ([] : List UInt8)) = false := by first | rfl | decide | (unfold ByteArray.toList ByteArray.toList.loop; rw [if_neg (by decide)]; rfl)

theorem held_size (s : ByteArray) (b : Int) : (feedv s b).1.size ≤ 3 := begunv_le _ (feedv_ok s b).1
theorem feeder_l0 (l : List Int) (hl : l.length < 4611686018427387904) (x : ByteArray) (hx : x.size ≤ 40) (i h : Int) (hi : 0 ≤ i) : ∀ (d j : Nat) (s : ByteArray), j + d = x.size → s.size ≤ 3 →
    ∃ v i' h', Ev (fun k => spec_l1DrawFeeder.l0 k x (j : Int) l i h s) (v, i', h') ∧ v.size ≤ 4 ∧ 0 ≤ i' := by
  intro d
  induction d with
  | zero =>
    intro j s hj hs
    obtain ⟨o, i2, h2, e2, j2⟩ := spec_l1Once_some l hl i h 12 hi (by omega)
    cases o with
    | true =>
      obtain ⟨v, i3, h3, e3, v0, v1, j3⟩ := spec_l1Below_some l hl i2 h2 7 j2 (by omega)
      refine ⟨rdOf ByteArray.empty ([(⟨#[97]⟩ : ByteArray), (⟨#[128]⟩ : ByteArray), (⟨#[194]⟩ : ByteArray), (⟨#[228, 184]⟩ : ByteArray), (⟨#[240, 159, 152]⟩ : ByteArray), (⟨#[237, 160]⟩ : ByteArray), (⟨#[240, 159, 152, 128]⟩ : ByteArray)] : List ByteArray) v, i3, h3, ev_succ ?_, ?_, j3⟩
      · simp only [spec_l1DrawFeeder.l0]
        exact ev_neg (by omega) (ev_bind_of e2 (ev_pos rfl (ev_bind_some (ev_bind_of e3 (ev_pos v0 (ev_pos (by simp only [List.length_cons, List.length_nil]; omega) (Ev.now _)))))))
      · obtain h | h | h | h | h | h | h : v = 0 ∨ v = 1 ∨ v = 2 ∨ v = 3 ∨ v = 4 ∨ v = 5 ∨ v = 6 := by omega
        all_goals subst h
        all_goals decide
    | false =>
      refine ⟨s, i2, h2, ev_succ ?_, by omega, j2⟩
      simp only [spec_l1DrawFeeder.l0]
      exact ev_neg (by omega) (ev_bind_of e2 (ev_neg (by simp) (Ev.now _)))
  | succ d ih =>
    intro j s hj hs
    obtain ⟨v, i', h', e, c1, c2⟩ := ih (j + 1) (feedv s (bt x (j : Int))).1 (by omega) (held_size _ _)
    refine ⟨v, i', h', ev_succ ?_, c1, c2⟩
    have hn : wrap64 ((j : Int) + 1) = ((j + 1 : Nat) : Int) := by rw [w64 (by omega) (by omega)]; omega
    simp only [spec_l1DrawFeeder.l0, hn]
    exact ev_pos (by omega) (ev_pos (by omega) (Ev.bind (spec_Feed_ev s _ (by omega)) e))
theorem spec_DrawFeed_some (l : List Int) (hl : l.length < 4611686018427387904) : ∃ s b, Ev (fun k => spec_DrawFeed.f k l) (s, b) ∧ s.size ≤ 4 := by
  obtain ⟨h, e0⟩ := spec_l1New_some l hl
  obtain ⟨x, i1, h1, e1, hx, j1⟩ := spec_l1DrawBytes_some l hl 0 h (by omega)
  obtain ⟨s, i2, h2, e2, hs, j2⟩ := feeder_l0 l hl x hx i1 h1 j1 x.size 0 (⟨#[]⟩ : ByteArray) (by omega) (by decide)
  obtain ⟨v, i3, h3, e3, v0, v1, j3⟩ := spec_l1Below_some l hl i2 h2 9 j2 (by omega)
  have e4 : Ev (fun k => spec_l1DrawFeeder.f k l 0 h) (s, i2, h2) := by unfold spec_l1DrawFeeder.f; exact Ev.bind e1 e2
  unfold spec_DrawFeed.f
  exact ⟨s, _, Ev.bind e0 (Ev.bind e4 (ev_bind_some (ev_bind_of e3 (ev_pos v0 (ev_pos (by simp only [List.length_cons, List.length_nil]; omega) (Ev.now _)))))), hs⟩
theorem fed_loop (s : ByteArray) (hs : s.size ≤ 40) (z : ByteArray) (hz : begunv z = true) : ∀ (d j p : Nat), j + d = s.size → p ≤ j → Bd s p → begunv (s.extract p j) = true →
    Ev (fun k => laws_FnFed.l0 k s (runes (s.extract 0 p)) (j : Int) z (s.extract p j)) true := by
  intro d
  induction d with
  | zero =>
    intro j p hj hp h hb
    have : j = s.size := by omega
    subst this
    have hr := h.2 s.size hp (Nat.le_refl _)
    rw [ext_full] at hr
    have l1 := runes_length (s.extract 0 p)
    have l2 := runes_length (s.extract p s.size)
    have z1 : (s.extract 0 p).size = p := by rw [ByteArray.size_extract]; omega
    have z2 := ext_size s p
    refine ev_succ ?_
    simp only [laws_FnFed.l0]
    refine ev_neg (by omega) (ev_bind_of (impl_FeederOk_eq z) (ev_pos hz (ev_bind_of (impl_FeederOk_eq _) (ev_pos hb (Ev.bind (spec_Runes_ev _ (by omega)) (ev_pos (by omega) (Ev.bind (spec_Runes_ev s (by omega)) ?_)))))))
    rw [← hr]
    exact Ev.bind (laws_likeInts_self _ (by have := runes_length s; omega)) (Ev.now _)
  | succ d ih =>
    intro j p hj hp h hb
    obtain ⟨p', t, c1, c2, c3, c4, c5⟩ := feedv_bd s p j hp (by omega) h hb
    have hn : wrap64 ((j : Int) + 1) = ((j + 1 : Nat) : Int) := by rw [w64 (by omega) (by omega)]; omega
    have l1 := runes_length (s.extract 0 p)
    have z1 : (s.extract 0 p).size ≤ s.size := by rw [ByteArray.size_extract]; omega
    have ok := feedv_ok (s.extract p j) (bt s (j : Int))
    rw [c4] at ok
    refine ev_succ ?_
    simp only [laws_FnFed.l0, hn]
    refine ev_pos (by omega) (ev_pos (by omega) (Ev.bind (impl_Feed_ev _ _) ?_))
    rw [c4]
    refine ev_pos (by have := ok.2; simp only at this; omega) ?_
    rw [← c5]
    exact ih (j + 1) p' (by omega) c2 c3 ok.1
theorem FnFed : laws_FnFed.Pure := by
  intro l _ hl _
  refine Ev.rounds ?_
  have hlen : l.length < 4611686018427387904 := by omega
  unfold laws_FnFed.f
  by_cases hb : laws_big.f l = some true
  · exact ev_bind_of hb (ev_pos rfl (Ev.now _))
  obtain ⟨b, hb'⟩ : ∃ b, laws_big.f l = some b := by unfold laws_big.f; exact ⟨_, rfl⟩
  have : b = false := by cases b with | true => exact absurd hb' hb | false => rfl
  subst this
  refine ev_bind_of hb' (ev_neg (by simp) ?_)
  obtain ⟨f, x, ef, hf⟩ := spec_DrawFeed_some l hlen
  obtain ⟨s, es, hs⟩ := spec_DrawGet_some l hlen
  have ess : Ev (fun k => spec_DrawRunes.f k l) s := by unfold spec_DrawRunes.f; exact Ev.bind es (Ev.now _)
  have ok := feedv_ok f x
  refine Ev.bind ef (Ev.bind (impl_Feed_ev f x) (Ev.bind (spec_Feed_ev f x (by omega)) (ev_neg (by simp) (Ev.bind (laws_likeInts_self _ (by omega)) (ev_pos rfl (ev_bind_of (impl_FeederOk_eq f) (Ev.bind (spec_FeederOk_ev f (by omega)) ?_)))))))
  rw [bne_self_eq_false]
  refine ev_succ ?_
  simp only [laws_FnFed.j0]
  refine ev_neg (by simp) (Ev.bind (spec_FeederOk_ev f (by omega)) ?_)
  by_cases h : begunv f = true
  · have hn := ext_none s 0
    have := fed_loop s hs (feedv f x).1 ok.1 s.size 0 0 (by omega) (Nat.le_refl _) (Bd_zero s) (by unfold begunv; rw [if_pos (by rw [ByteArray.size_extract]; omega)])
    rw [hn] at this
    have he : s.extract 0 0 = (⟨#[]⟩ : ByteArray) := by apply ByteArray.ext; simp
    rw [he] at this
    exact ev_pos h (Ev.bind ess this)
  · have hv : feedv f x = ((⟨#[]⟩ : ByteArray), []) := by unfold feedv; rw [if_neg h]
    refine ev_neg h ?_
    rw [hv]
    exact ev_pos (beq_iff_eq.mpr ((str_nil _).mpr rfl)) (ev_eq (Ev.now _) (by simp))

end Go.Proofs.YtfhkpneffmcdbaaDoor.Pure
