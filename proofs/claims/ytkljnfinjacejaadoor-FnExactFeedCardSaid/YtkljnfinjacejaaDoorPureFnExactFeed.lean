/- The law FnExactFeed answers true at every feeder and byte. -/
import Derived.Test.YtkljnfinjacejaaDoorPBx9
import Derived.Test.YtkljnfinjacejaaDoorAimFnExactFeed
namespace Go.Proofs.YtkljnfinjacejaaDoor.Pure
open Go.RowKit Go.Proofs.YtkljnfinjacejaaDoor.PB Go.Proofs.YtkljnfinjacejaaDoorW.PrintWords Go.Proofs.YtkljnfinjacejaaDoorW.PrintLast
set_option linter.unusedVariables false
set_option linter.unusedSimpArgs false

theorem w64 {x : Int} (h0 : -9223372036854775808 ≤ x) (h1 : x ≤ 9223372036854775807) : wrap64 x = x := by unfold wrap64; omega
theorem wf64 {x : Int} : (Lit.int .i64 x).wf = true ↔ -9223372036854775808 ≤ x ∧ x ≤ 9223372036854775807 := by
  simp [Lit.wf, IntKind.min, IntKind.max, IntKind.signed, IntKind.bits]
theorem wf8 {x : Int} : (Lit.int .u8 x).wf = true ↔ 0 ≤ x ∧ x ≤ 255 := by
  simp [Lit.wf, IntKind.min, IntKind.max, IntKind.signed, IntKind.bits]
theorem ev_succ {α : Type} {g : Nat → Option α} {r : α} (h : Ev (fun k => g (k + 1)) r) : Ev g r := by
  obtain ⟨K, h⟩ := h
  refine ⟨K + 1, fun k hk => ?_⟩
  obtain ⟨m, rfl⟩ : ∃ m, k = m + 1 := ⟨k - 1, by omega⟩
  exact h m (by omega)
theorem ev_fixed {α : Type} {x : Option α} {r : α} (h : x = some r) : Ev (fun _ => x) r := ⟨0, fun _ _ => h⟩
theorem ev_eq {α : Type} {g : Nat → Option α} {r s : α} (h : Ev g r) (e : r = s) : Ev g s := e ▸ h
theorem bt0 (s : ByteArray) (i : Int) : 0 ≤ bt s i := (bt_range s i).1
theorem bt255 (s : ByteArray) (i : Int) : bt s i ≤ 255 := (bt_range s i).2
/-- Never keep an equation 'wrap64 .. = ..' in the context where omega runs: it compares them by unfolding. -/
theorem wN {x : Int} {n : Nat} (e : x = (n : Int)) (h : n < 4611686018427387904) : wrap64 x = (n : Int) := by rw [e]; exact w64 (by omega) (by omega)

theorem ev_pos {α : Type} {c : Prop} [Decidable c] {a b : Nat → Option α} {r : α} (hc : c) (h : Ev a r) : Ev (fun k => if c then a k else b k) r := by
  obtain ⟨K, h⟩ := h
  exact ⟨K, fun k hk => by show (if c then a k else b k) = some r; rw [if_pos hc]; exact h k hk⟩
theorem ev_neg {α : Type} {c : Prop} [Decidable c] {a b : Nat → Option α} {r : α} (hc : ¬ c) (h : Ev b r) : Ev (fun k => if c then a k else b k) r := by
  obtain ⟨K, h⟩ := h
  exact ⟨K, fun k hk => by show (if c then a k else b k) = some r; rw [if_neg hc]; exact h k hk⟩
theorem ev_bind_some {α β : Type} {a : α} {f : Nat → α → Option β} {r : β} (h : Ev (fun k => f k a) r) : Ev (fun k => (some a).bind (f k)) r := h
theorem ev_bind_of {α β : Type} {x : Option α} {a : α} {f : Nat → α → Option β} {r : β} (hx : x = some a) (h : Ev (fun k => f k a) r) : Ev (fun k => x.bind (f k)) r := by
  subst hx; exact h

def rok (r : Int) : Bool := decide (0 ≤ r) && decide (r ≤ 1114111) && !(decide (55296 ≤ r) && decide (r ≤ 57343))
theorem rok_iff {r : Int} : rok r = true ↔ 0 ≤ r ∧ r ≤ 1114111 ∧ ¬ (55296 ≤ r ∧ r ≤ 57343) := by
  simp [rok]; omega

def enc (r : Int) : List Int :=
  if r < 128 then [r] else if r < 2048 then [192 + r / 64, 128 + r % 64]
  else if r < 65536 then [224 + r / 4096, 128 + r / 64 % 64, 128 + r % 64]
  else [240 + r / 262144, 128 + r / 4096 % 64, 128 + r / 64 % 64, 128 + r % 64]
theorem enc_length (r : Int) : (enc r).length ≤ 4 := by
  unfold enc
  repeat' split
  all_goals simp
theorem enc_pos (r : Int) : 0 < (enc r).length := by
  unfold enc
  repeat' split
  all_goals simp
theorem enc_byte {r : Int} (h : rok r = true) : ∀ x ∈ enc r, 0 ≤ x ∧ x ≤ 255 := by
  rw [rok_iff] at h
  unfold enc
  repeat' split
  all_goals (intro x hx; simp only [List.mem_cons, List.not_mem_nil, or_false] at hx; omega)

def bn (s : ByteArray) (i : Nat) : Nat := (s.get! i).toNat
theorem bn_lt (s : ByteArray) (i : Nat) : bn s i < 256 := UInt8.toNat_lt _
theorem bn_get (s : ByteArray) (i : Nat) (h : i < s.size) : s[i] = s.get! i := (Utf8W.get!_of_lt s i h).symm
theorem bn_bt (s : ByteArray) (i : Nat) (h : i < s.size) : bt s (i : Int) = (bn s i : Int) := by
  unfold bt bn
  have e : (i : Int).toNat = i := Int.toNat_natCast i
  rw [dif_pos (by rw [e]; exact h)]
  congr 2
  have : ∀ j (hj : j < s.size), j = i → s[j] = s.get! i := fun j hj e => by subst e; exact bn_get s j hj
  exact this _ _ e
theorem str_nil (s : ByteArray) : s.toList = [] ↔ s.size = 0 := by
  rw [Lib.toList_data]
  constructor
  · intro h
    have := congrArg List.length h
    simpa using this
  · intro h
    exact List.eq_nil_of_length_eq_zero (by simpa using h)
def dcv (s : ByteArray) : Nat × Nat := Lib.decodeN s.size (bn s 0) (bn s 1) (bn s 2) (bn s 3)
def getv (s : ByteArray) : Int × Int := if s.size = 0 then (0, 0) else (((dcv s).1 : Int), ((dcv s).2 : Int))
theorem decodeN_rune (n b0 b1 b2 b3 : Nat) : (Lib.decodeN n b0 b1 b2 b3).1 ≤ 1114111 := by
  unfold Lib.decodeN
  repeat' split
  all_goals (simp only; omega)
theorem decodeN_width (n b0 b1 b2 b3 : Nat) (hn : 1 ≤ n) : 1 ≤ (Lib.decodeN n b0 b1 b2 b3).2 ∧ (Lib.decodeN n b0 b1 b2 b3).2 ≤ n ∧ (Lib.decodeN n b0 b1 b2 b3).2 ≤ 4 := by
  unfold Lib.decodeN
  repeat' split
  all_goals (simp only; omega)
theorem dcv_bounds (s : ByteArray) (h : s.size ≠ 0) : (dcv s).1 ≤ 1114111 ∧ 1 ≤ (dcv s).2 ∧ (dcv s).2 ≤ s.size ∧ (dcv s).2 ≤ 4 :=
  ⟨decodeN_rune _ _ _ _ _, decodeN_width _ _ _ _ _ (by omega)⟩
theorem decodeGo_dcv (s : ByteArray) (h : s.size ≠ 0) : Lib.decodeGo s = dcv s := by
  unfold Lib.decodeGo dcv bn
  rw [if_neg h, Lib.decode_at, Nat.sub_zero, Nat.zero_add, Nat.zero_add, Nat.zero_add]
theorem impl_Get_eq (s : ByteArray) : impl_Get.f s = some (getv s) := by
  unfold impl_Get.f getv
  by_cases h : s.size = 0
  · rw [if_pos ((str_nil s).mpr h), if_pos h]
  · rw [if_neg (fun x => h ((str_nil s).mp x)), if_neg h]
    unfold utf8_DecodeRuneInString.f
    have := (dcv_bounds s h).1
    simp only [Option.bind_some, decodeGo_dcv s h, w64 (x := ((dcv s).1 : Int)) (by omega) (by omega)]
theorem getv_bounds (s : ByteArray) (h : s.size ≠ 0) : 0 ≤ (getv s).1 ∧ (getv s).1 ≤ 1114111 ∧ 1 ≤ (getv s).2 ∧ (getv s).2 ≤ s.size ∧ (getv s).2 ≤ 4 := by
  unfold getv
  rw [if_neg h]
  have := dcv_bounds s h
  simp only
  omega
theorem ext_size (s : ByteArray) (a : Nat) : (s.extract a s.size).size = s.size - a := by
  rw [ByteArray.size_extract]; omega

/-- Does a text begin with a whole rune, or with what is none? -/
def fullv (s : ByteArray) : Bool := (utf8_FullRuneInString.f s).getD false
theorem full_eq (s : ByteArray) : utf8_FullRuneInString.f s = some (fullv s) := rfl
theorem width2 (n b0 b1 b2 b3 : Nat) (h0 : b0 / 32 = 6) (hn : 1 < n) : (Lib.decodeN n b0 b1 b2 b3).2 = 2 ↔ (b1 / 64 = 2 ∧ b0 % 32 * 64 + b1 % 64 ≥ 128) := by
  unfold Lib.decodeN
  rw [if_neg (show ¬ b0 < 128 by omega)]
  by_cases q : b1 / 64 = 2
  · rw [if_pos ⟨h0, hn, q⟩]
    by_cases q2 : b0 % 32 * 64 + b1 % 64 ≥ 128
    · rw [if_pos q2]; simp [q, q2]
    · rw [if_neg q2]; simp [q2]
  · rw [if_neg (by omega), if_neg (by omega), if_neg (by omega)]; simp [q]
theorem width3 (n b0 b1 b2 b3 : Nat) (h0 : b0 / 16 = 14) (hn : 2 < n) : (Lib.decodeN n b0 b1 b2 b3).2 = 3 ↔ (b1 / 64 = 2 ∧ b2 / 64 = 2 ∧ b0 % 16 * 4096 + b1 % 64 * 64 + b2 % 64 ≥ 2048 ∧ (b0 % 16 * 4096 + b1 % 64 * 64 + b2 % 64 < 55296 ∨ 57344 ≤ b0 % 16 * 4096 + b1 % 64 * 64 + b2 % 64)) := by
  unfold Lib.decodeN
  rw [if_neg (show ¬ b0 < 128 by omega), if_neg (by omega)]
  by_cases q : b1 / 64 = 2 ∧ b2 / 64 = 2
  · rw [if_pos ⟨h0, ⟨by omega, q.1⟩, hn, q.2⟩]
    by_cases q2 : b0 % 16 * 4096 + b1 % 64 * 64 + b2 % 64 ≥ 2048 ∧ (b0 % 16 * 4096 + b1 % 64 * 64 + b2 % 64 < 55296 ∨ 57344 ≤ b0 % 16 * 4096 + b1 % 64 * 64 + b2 % 64 ∧ b0 % 16 * 4096 + b1 % 64 * 64 + b2 % 64 ≤ 1114111)
    · rw [if_pos q2]; simp only [true_iff]; omega
    · rw [if_neg q2]; simp only [show (1 : Nat) ≠ 3 by omega, false_iff]; omega
  · rw [if_neg (by omega), if_neg (by omega)]; simp only [show (1 : Nat) ≠ 3 by omega, false_iff]; omega
theorem width4 (n b0 b1 b2 b3 : Nat) (h0 : b0 / 8 = 30) (hn : 3 < n) : (Lib.decodeN n b0 b1 b2 b3).2 = 4 ↔ (b1 / 64 = 2 ∧ b2 / 64 = 2 ∧ b3 / 64 = 2 ∧ b0 % 8 * 262144 + b1 % 64 * 4096 + b2 % 64 * 64 + b3 % 64 ≥ 65536 ∧ b0 % 8 * 262144 + b1 % 64 * 4096 + b2 % 64 * 64 + b3 % 64 ≤ 1114111) := by
  unfold Lib.decodeN
  rw [if_neg (show ¬ b0 < 128 by omega), if_neg (by omega), if_neg (by omega)]
  by_cases q : b1 / 64 = 2 ∧ b2 / 64 = 2 ∧ b3 / 64 = 2
  · rw [if_pos ⟨h0, ⟨by omega, q.1⟩, ⟨by omega, q.2.1⟩, hn, q.2.2⟩]
    by_cases q2 : b0 % 8 * 262144 + b1 % 64 * 4096 + b2 % 64 * 64 + b3 % 64 ≥ 65536 ∧ (b0 % 8 * 262144 + b1 % 64 * 4096 + b2 % 64 * 64 + b3 % 64 < 55296 ∨ 57344 ≤ b0 % 8 * 262144 + b1 % 64 * 4096 + b2 % 64 * 64 + b3 % 64 ∧ b0 % 8 * 262144 + b1 % 64 * 4096 + b2 % 64 * 64 + b3 % 64 ≤ 1114111)
    · rw [if_pos q2]; simp only [true_iff]; omega
    · rw [if_neg q2]; simp only [show (1 : Nat) ≠ 4 by omega, false_iff]; omega
  · rw [if_neg (by omega)]; simp only [show (1 : Nat) ≠ 4 by omega, false_iff]; omega

theorem spec_l1In_eq (a b c : Int) : spec_l1In.f a b c = some (decide (b ≤ a) && decide (a ≤ c)) := by
  unfold spec_l1In.f
  by_cases h : a ≥ b
  · rw [if_pos h]; simp [h]
  · rw [if_neg h]; simp [show ¬ b ≤ a from h]

theorem spec_RuneOk_eq (r : Int) : spec_RuneOk.f r = some (rok r) := by
  simp only [spec_RuneOk.f, spec_l1In_eq, Option.bind_some, rok]
  by_cases h : (decide (0 ≤ r) && decide (r ≤ 1114111)) = true
  · rw [if_pos h, h, Bool.true_and]
  · rw [if_neg h, Bool.eq_false_iff.mpr h, Bool.false_and]

theorem spec_l1Put_eq {r : Int} (h : rok r = true) : spec_l1Put.f r = some (enc r) := by
  rw [rok_iff] at h
  have t64 : Int.tdiv r 64 = r / 64 := Int.tdiv_eq_ediv_of_nonneg h.1
  have t4096 : Int.tdiv r 4096 = r / 4096 := Int.tdiv_eq_ediv_of_nonneg h.1
  have t262144 : Int.tdiv r 262144 = r / 262144 := Int.tdiv_eq_ediv_of_nonneg h.1
  have m64 : Int.tmod r 64 = r % 64 := Int.tmod_eq_emod_of_nonneg h.1
  have w1 : wrap64 (r / 64) = r / 64 := w64 (by omega) (by omega)
  have w2 : wrap64 (r / 4096) = r / 4096 := w64 (by omega) (by omega)
  have w3 : wrap64 (r / 262144) = r / 262144 := w64 (by omega) (by omega)
  have m1 : Int.tmod (r / 64) 64 = r / 64 % 64 := Int.tmod_eq_emod_of_nonneg (by omega)
  have m2 : Int.tmod (r / 4096) 64 = r / 4096 % 64 := Int.tmod_eq_emod_of_nonneg (by omega)
  unfold spec_l1Put.f enc
  simp only [t64, t4096, t262144, m64, w1, w2, w3, m1, m2]
  repeat' split
  · rw [show r % 256 = r by omega]
  · rw [w64 (by omega) (by omega), w64 (by omega) (by omega), show (192 + r / 64) % 256 = 192 + r / 64 by omega, show (128 + r % 64) % 256 = 128 + r % 64 by omega]
  · rw [w64 (x := 224 + r / 4096) (by omega) (by omega), w64 (x := 128 + r / 64 % 64) (by omega) (by omega), w64 (x := 128 + r % 64) (by omega) (by omega), show (224 + r / 4096) % 256 = 224 + r / 4096 by omega,
      show (128 + r / 64 % 64) % 256 = 128 + r / 64 % 64 by omega, show (128 + r % 64) % 256 = 128 + r % 64 by omega]
  · rw [w64 (x := 240 + r / 262144) (by omega) (by omega), w64 (x := 128 + r / 4096 % 64) (by omega) (by omega), w64 (x := 128 + r / 64 % 64) (by omega) (by omega), w64 (x := 128 + r % 64) (by omega) (by omega), show (240 + r / 262144) % 256 = 240 + r / 262144 by omega,
      show (128 + r / 4096 % 64) % 256 = 128 + r / 4096 % 64 by omega, show (128 + r / 64 % 64) % 256 = 128 + r / 64 % 64 by omega, show (128 + r % 64) % 256 = 128 + r % 64 by omega]

def putv (r : Int) : ByteArray := if rok r then strOfNums (enc r) else ⟨#[]⟩
theorem spec_Put_eq (r : Int) : spec_Put.f r = some (putv r) := by
  unfold spec_Put.f putv
  rw [spec_RuneOk_eq]
  simp only [Option.bind_some]
  split
  · rename_i h; rw [spec_l1Put_eq h]; rfl
  · rfl

/-- The first n bytes, as numbers. -/
def bl (s : ByteArray) (n : Nat) : List Int := (List.range n).map fun i => (bn s i : Int)
theorem extract_toList (s : ByteArray) (n : Nat) (h : n ≤ s.size) : (s.extract 0 n).toList = (bl s n).map fun x => UInt8.ofNat x.toNat := by
  rw [Lib.toList_data, ByteArray.data_extract, Array.toList_extract]
  refine List.ext_getElem ?_ fun i h1 h2 => ?_
  · have : s.data.toList.length = s.size := by rw [Array.length_toList]; rfl
    simp [bl]; omega
  · have hi : i < s.size := by simp [bl] at h2; omega
    simp only [bl, List.map_map, List.getElem_map, List.getElem_range, Function.comp, Int.toNat_natCast, List.getElem_take, List.getElem_drop, Array.getElem_toList, Nat.zero_add]
    have : s[i] = s.get! i := bn_get s i hi
    unfold bn
    rw [← this, UInt8.ofNat_toNat]
    rfl
theorem ofNat_inj {x y : Int} (hx : 0 ≤ x ∧ x ≤ 255) (hy : 0 ≤ y ∧ y ≤ 255) (h : UInt8.ofNat x.toNat = UInt8.ofNat y.toNat) : x = y := by
  have := congrArg UInt8.toNat h
  simp only [UInt8.toNat_ofNat'] at this
  omega
theorem bytes_inj : ∀ (l m : List Int), (∀ x ∈ l, 0 ≤ x ∧ x ≤ 255) → (∀ x ∈ m, 0 ≤ x ∧ x ≤ 255) → (l.map fun x => UInt8.ofNat x.toNat) = (m.map fun x => UInt8.ofNat x.toNat) → l = m
  | [], [], _, _, _ => rfl
  | [], y :: m, _, _, h => by simp at h
  | x :: l, [], _, _, h => by simp at h
  | x :: l, y :: m, hl, hm, h => by
    simp only [List.map_cons, List.cons.injEq] at h
    rw [ofNat_inj (hl x (by simp)) (hm y (by simp)) h.1, bytes_inj l m (fun z hz => hl z (by simp [hz])) (fun z hz => hm z (by simp [hz])) h.2]
theorem bl_range (s : ByteArray) (n : Nat) : ∀ x ∈ bl s n, 0 ≤ x ∧ x ≤ 255 := by
  intro x hx
  simp only [bl, List.mem_map, List.mem_range] at hx
  obtain ⟨i, _, rfl⟩ := hx
  have := bn_lt s i
  omega
theorem put_is (s : ByteArray) (r : Int) (n : Nat) (h : n ≤ s.size) (h1 : 1 ≤ n) : (putv r).toList = (s.extract 0 n).toList ↔ (rok r = true ∧ enc r = bl s n) := by
  rw [extract_toList s n h]
  unfold putv
  by_cases hr : rok r = true
  · rw [if_pos hr, Lib.toList_data, strOfNums_data]
    exact ⟨fun e => ⟨hr, bytes_inj _ _ (enc_byte hr) (bl_range s n) e⟩, fun e => by rw [e.2]⟩
  · rw [if_neg hr]
    constructor
    · intro e
      have := congrArg List.length e
      simp [bl, Lib.toList_data] at this
      omega
    · intro e; exact absurd e.1 hr
def longv (b : Nat) : Nat := if b < 128 then 1 else if 192 ≤ b ∧ b < 224 then 2 else if 224 ≤ b ∧ b < 240 then 3 else if 240 ≤ b ∧ b < 248 then 4 else 0
theorem spec_l1Long_ev (b : Nat) : Ev (fun k => spec_l1Long.f k (b : Int)) (longv b : Int) := by
  have j1 : ∀ c : Bool, c = decide (224 ≤ b ∧ b < 240) → Ev (fun k => spec_l1Long.j1 k (b : Int) c) (if 224 ≤ b ∧ b < 240 then 3 else if 240 ≤ b ∧ b < 248 then 4 else 0 : Int) := by
    intro c hc
    refine ev_succ ?_
    simp only [spec_l1Long.j1]
    by_cases h : 224 ≤ b ∧ b < 240
    · rw [decide_eq_true h] at hc; exact ev_pos hc (ev_eq (Ev.now _) (if_pos h).symm)
    · rw [decide_eq_false h] at hc
      refine ev_neg (by rw [hc]; simp) (ev_eq (r := if 240 ≤ b ∧ b < 248 then 4 else 0) ?_ (if_neg h).symm)
      by_cases q : (b : Int) ≥ 240
      · refine ev_pos q ?_
        by_cases q2 : (b : Int) < 248
        · exact ev_pos q2 (ev_eq (Ev.now _) (if_pos (by omega)).symm)
        · exact ev_neg q2 (ev_eq (Ev.now _) (if_neg (by omega)).symm)
      · exact ev_neg q (ev_eq (Ev.now _) (if_neg (by omega)).symm)
  have j0 : ∀ c : Bool, c = decide (192 ≤ b ∧ b < 224) → Ev (fun k => spec_l1Long.j0 k (b : Int) c) (if 192 ≤ b ∧ b < 224 then 2 else if 224 ≤ b ∧ b < 240 then 3 else if 240 ≤ b ∧ b < 248 then 4 else 0 : Int) := by
    intro c hc
    refine ev_succ ?_
    simp only [spec_l1Long.j0]
    by_cases h : 192 ≤ b ∧ b < 224
    · rw [decide_eq_true h] at hc; exact ev_pos hc (ev_eq (Ev.now _) (if_pos h).symm)
    · rw [decide_eq_false h] at hc
      refine ev_neg (by rw [hc]; simp) (ev_eq (r := if 224 ≤ b ∧ b < 240 then 3 else if 240 ≤ b ∧ b < 248 then 4 else 0) ?_ (if_neg h).symm)
      by_cases q : (b : Int) ≥ 224
      · exact ev_pos q (j1 _ (decide_eq_decide.mpr (by omega)))
      · exact ev_neg q (j1 _ (decide_eq_false (by omega)).symm)
  unfold spec_l1Long.f
  have hv : (longv b : Int) = if b < 128 then 1 else (if 192 ≤ b ∧ b < 224 then 2 else if 224 ≤ b ∧ b < 240 then 3 else if 240 ≤ b ∧ b < 248 then 4 else 0 : Int) := by
    unfold longv; split
    · rfl
    · split
      · rfl
      · split
        · rfl
        · split <;> rfl
  by_cases h : (b : Int) < 128
  · exact ev_pos h (ev_eq (Ev.now _) (by rw [hv, if_pos (by omega)]))
  · refine ev_neg h (ev_eq (r := (if 192 ≤ b ∧ b < 224 then 2 else if 224 ≤ b ∧ b < 240 then 3 else if 240 ≤ b ∧ b < 248 then 4 else 0 : Int)) ?_ (by rw [hv]; exact (if_neg (by omega)).symm))
    by_cases q : (b : Int) ≥ 192
    · exact ev_pos q (j0 _ (decide_eq_decide.mpr (by omega)))
    · exact ev_neg q (j0 _ (decide_eq_false (by omega)).symm)
/-- What is told behind the bytes. -/
def tellv (s : ByteArray) (r n : Nat) : Int × Int := if rok (r : Int) = true ∧ enc (r : Int) = bl s n then ((r : Int), (n : Int)) else (65533, 1)
theorem get_end (s : ByteArray) (r n : Nat) (hn : n ≤ s.size) (h1 : 1 ≤ n) : Ev (fun k => spec_Get.l0 k s (n : Int) (r : Int) (n : Int)) (tellv s r n) := by
  refine ev_succ ?_
  simp only [spec_Get.l0, spec_Put_eq, Option.bind_some, Int.toNat_natCast]
  refine ev_neg (by omega) (ev_pos (by omega) (ev_pos (by omega) ?_))
  unfold tellv
  by_cases h : (putv (r : Int)).toList = (s.extract 0 n).toList
  · exact ev_pos h (ev_eq (Ev.now _) (if_pos ((put_is s _ n hn h1).mp h)).symm)
  · exact ev_neg h (ev_eq (Ev.now _) (if_neg (fun x => h ((put_is s _ n hn h1).mpr x))).symm)
theorem get_step (s : ByteArray) (r n i : Nat) (hi : i < n) (hn : n ≤ s.size) (hn4 : n ≤ 4) (hr : r < 1073741824) {v : Int × Int} (h : Ev (fun k => spec_Get.l0 k s (n : Int) ((r * 64 + bn s i % 64 : Nat) : Int) ((i + 1 : Nat) : Int)) v) :
    Ev (fun k => spec_Get.l0 k s (n : Int) (r : Int) (i : Int)) v := by
  have hb := bn_lt s i
  have e1 : ∀ _ : Unit, wrap64 (wrap64 ((r : Int) * 64) + wrap64 (Int.tmod (bt s (i : Int)) 64)) = ((r * 64 + bn s i % 64 : Nat) : Int) := fun _ => by
    rw [bn_bt s i (by omega), Int.tmod_eq_emod_of_nonneg (by omega), w64 (x := (r : Int) * 64) (by omega) (by omega), w64 (x := ((bn s i : Nat) : Int) % 64) (by omega) (by omega), w64 (by omega) (by omega)]
    omega
  refine ev_succ ?_
  simp only [spec_Get.l0, e1 (), show wrap64 ((i : Int) + 1) = ((i + 1 : Nat) : Int) by rw [w64 (by omega) (by omega)]; omega]
  exact ev_pos (by omega) (ev_pos (by omega) (ev_pos (by omega) h))
theorem get_j0 (s : ByteArray) (n m r : Nat) (hs : 0 < s.size) (hn : 1 < n) (hn4 : n ≤ 4) (hm : shl .i64 1 (IntKind.u64.wrap (wrap64 (7 - (n : Int)))) = (m : Int)) (hm0 : 0 < m) (hw : 0 ≤ IntKind.u64.wrap (wrap64 (7 - (n : Int)))) (hr : r = bn s 0 % m) {v : Int × Int}
    (h : Ev (fun k => spec_Get.l0 k s (n : Int) (r : Int) 1) v) : Ev (fun k => spec_Get.j0 k s (n : Int) false) v := by
  have hb := bn_lt s 0
  have e0 : ∀ _ : Unit, Int.tmod (wrap64 (bt s 0)) (m : Int) = (r : Int) := fun _ => by
    have := bn_bt s 0 hs
    rw [show ((0 : Nat) : Int) = 0 from rfl] at this
    rw [this, w64 (by omega) (by omega), Int.tmod_eq_emod_of_nonneg (by omega), hr]; omega
  refine ev_succ ?_
  simp only [spec_Get.j0, hm, e0 ()]
  refine ev_neg (by simp) (ev_pos (by omega) (ev_pos (by omega) (ev_pos hw (ev_neg (by omega) (ev_succ ?_)))))
  simp only [spec_Get.j1]
  exact h
theorem tell1 (s : ByteArray) (h : bn s 0 < 128) : tellv s (bn s 0) 1 = (((dcv s).1 : Int), ((dcv s).2 : Int)) := by
  have hd : dcv s = (bn s 0, 1) := by unfold dcv Lib.decodeN; rw [if_pos h]
  have hc : rok ((bn s 0 : Nat) : Int) = true ∧ enc ((bn s 0 : Nat) : Int) = bl s 1 := by
    refine ⟨rok_iff.mpr (by omega), ?_⟩
    unfold enc; rw [if_pos (by omega)]; rfl
  unfold tellv
  rw [if_pos hc, hd]
theorem tell2 (s : ByteArray) (hs : 2 ≤ s.size) (h : 192 ≤ bn s 0 ∧ bn s 0 < 224) : tellv s (bn s 0 % 32 * 64 + bn s 1 % 64) 2 = (((dcv s).1 : Int), ((dcv s).2 : Int)) := by
  have b1 := bn_lt s 1
  have hbl : bl s 2 = [(bn s 0 : Int), (bn s 1 : Int)] := rfl
  unfold tellv dcv
  rw [hbl]
  generalize bn s 0 = x0 at *
  generalize bn s 1 = x1 at *
  generalize bn s 2 = x2 at *
  generalize bn s 3 = x3 at *
  have key : (rok ((x0 % 32 * 64 + x1 % 64 : Nat) : Int) = true ∧ enc ((x0 % 32 * 64 + x1 % 64 : Nat) : Int) = [(x0 : Int), (x1 : Int)]) ↔ (x1 / 64 = 2 ∧ 128 ≤ x0 % 32 * 64 + x1 % 64) := by
    constructor
    · rintro ⟨_, e⟩
      unfold enc at e
      split at e
      · simp at e
      · split at e
        · simp only [List.cons.injEq, and_true] at e; omega
        · omega
    · intro q
      refine ⟨rok_iff.mpr (by omega), ?_⟩
      unfold enc
      rw [if_neg (by omega), if_pos (by omega)]
      simp only [List.cons.injEq, and_true]; omega
  unfold Lib.decodeN
  rw [if_neg (show ¬ x0 < 128 by omega)]
  by_cases q : x1 / 64 = 2
  · rw [if_pos (show x0 / 32 = 6 ∧ 1 < s.size ∧ x1 / 64 = 2 by omega)]
    by_cases q2 : x0 % 32 * 64 + x1 % 64 ≥ 128
    · rw [if_pos (key.mpr ⟨q, q2⟩), if_pos q2]
    · rw [if_neg (fun x => q2 (key.mp x).2), if_neg q2]; rfl
  · rw [if_neg (fun x => q (key.mp x).1), if_neg (by omega), if_neg (by omega), if_neg (by omega)]; rfl
theorem tell3 (s : ByteArray) (hs : 3 ≤ s.size) (h : 224 ≤ bn s 0 ∧ bn s 0 < 240) : tellv s ((bn s 0 % 16 * 64 + bn s 1 % 64) * 64 + bn s 2 % 64) 3 = (((dcv s).1 : Int), ((dcv s).2 : Int)) := by
  have b1 := bn_lt s 1
  have b2 := bn_lt s 2
  have hbl : bl s 3 = [(bn s 0 : Int), (bn s 1 : Int), (bn s 2 : Int)] := rfl
  unfold tellv dcv
  rw [hbl]
  generalize bn s 0 = x0 at *
  generalize bn s 1 = x1 at *
  generalize bn s 2 = x2 at *
  generalize bn s 3 = x3 at *
  have eR : (x0 % 16 * 64 + x1 % 64) * 64 + x2 % 64 = x0 % 16 * 4096 + x1 % 64 * 64 + x2 % 64 := by omega
  rw [eR]
  have key : (rok ((x0 % 16 * 4096 + x1 % 64 * 64 + x2 % 64 : Nat) : Int) = true ∧ enc ((x0 % 16 * 4096 + x1 % 64 * 64 + x2 % 64 : Nat) : Int) = [(x0 : Int), (x1 : Int), (x2 : Int)]) ↔ (x1 / 64 = 2 ∧ x2 / 64 = 2 ∧ 2048 ≤ x0 % 16 * 4096 + x1 % 64 * 64 + x2 % 64 ∧ (x0 % 16 * 4096 + x1 % 64 * 64 + x2 % 64 < 55296 ∨ 57344 ≤ x0 % 16 * 4096 + x1 % 64 * 64 + x2 % 64)) := by
    constructor
    · rintro ⟨hr, e⟩
      have hr := rok_iff.mp hr
      unfold enc at e
      split at e
      · simp at e
      · split at e
        · simp at e
        · split at e
          · simp only [List.cons.injEq, and_true] at e; omega
          · omega
    · intro q
      refine ⟨rok_iff.mpr (by omega), ?_⟩
      unfold enc
      rw [if_neg (by omega), if_neg (by omega), if_pos (by omega)]
      simp only [List.cons.injEq, and_true]; omega
  unfold Lib.decodeN
  rw [if_neg (show ¬ x0 < 128 by omega), if_neg (show ¬ (x0 / 32 = 6 ∧ 1 < s.size ∧ x1 / 64 = 2) by omega)]
  by_cases q : x1 / 64 = 2 ∧ x2 / 64 = 2
  · rw [if_pos (show x0 / 16 = 14 ∧ (1 < s.size ∧ x1 / 64 = 2) ∧ (2 < s.size ∧ x2 / 64 = 2) by omega)]
    by_cases q2 : x0 % 16 * 4096 + x1 % 64 * 64 + x2 % 64 ≥ 2048 ∧ (x0 % 16 * 4096 + x1 % 64 * 64 + x2 % 64 < 55296 ∨ (57344 ≤ x0 % 16 * 4096 + x1 % 64 * 64 + x2 % 64 ∧ x0 % 16 * 4096 + x1 % 64 * 64 + x2 % 64 ≤ 1114111))
    · rw [if_pos (key.mpr ⟨q.1, q.2, q2.1, by omega⟩), if_pos q2]
    · rw [if_neg (fun x => q2 (by have := key.mp x; omega)), if_neg q2]; rfl
  · rw [if_neg (fun x => q (by have := key.mp x; omega)), if_neg (by omega), if_neg (by omega)]; rfl
theorem tell4 (s : ByteArray) (hs : 4 ≤ s.size) (h : 240 ≤ bn s 0 ∧ bn s 0 < 248) : tellv s (((bn s 0 % 8 * 64 + bn s 1 % 64) * 64 + bn s 2 % 64) * 64 + bn s 3 % 64) 4 = (((dcv s).1 : Int), ((dcv s).2 : Int)) := by
  have b1 := bn_lt s 1
  have b2 := bn_lt s 2
  have b3 := bn_lt s 3
  have hbl : bl s 4 = [(bn s 0 : Int), (bn s 1 : Int), (bn s 2 : Int), (bn s 3 : Int)] := rfl
  unfold tellv dcv
  rw [hbl]
  generalize bn s 0 = x0 at *
  generalize bn s 1 = x1 at *
  generalize bn s 2 = x2 at *
  generalize bn s 3 = x3 at *
  have eR : ((x0 % 8 * 64 + x1 % 64) * 64 + x2 % 64) * 64 + x3 % 64 = x0 % 8 * 262144 + x1 % 64 * 4096 + x2 % 64 * 64 + x3 % 64 := by omega
  rw [eR]
  have key : (rok ((x0 % 8 * 262144 + x1 % 64 * 4096 + x2 % 64 * 64 + x3 % 64 : Nat) : Int) = true ∧ enc ((x0 % 8 * 262144 + x1 % 64 * 4096 + x2 % 64 * 64 + x3 % 64 : Nat) : Int) = [(x0 : Int), (x1 : Int), (x2 : Int), (x3 : Int)]) ↔ (x1 / 64 = 2 ∧ x2 / 64 = 2 ∧ x3 / 64 = 2 ∧ 65536 ≤ x0 % 8 * 262144 + x1 % 64 * 4096 + x2 % 64 * 64 + x3 % 64 ∧ x0 % 8 * 262144 + x1 % 64 * 4096 + x2 % 64 * 64 + x3 % 64 ≤ 1114111) := by
    constructor
    · rintro ⟨hr, e⟩
      have hr := rok_iff.mp hr
      unfold enc at e
      split at e
      · simp at e
      · split at e
        · simp at e
        · split at e
          · simp at e
          · simp only [List.cons.injEq, and_true] at e; omega
    · intro q
      refine ⟨rok_iff.mpr (by omega), ?_⟩
      unfold enc
      rw [if_neg (by omega), if_neg (by omega), if_neg (by omega)]
      simp only [List.cons.injEq, and_true]; omega
  unfold Lib.decodeN
  rw [if_neg (show ¬ x0 < 128 by omega), if_neg (show ¬ (x0 / 32 = 6 ∧ 1 < s.size ∧ x1 / 64 = 2) by omega), if_neg (show ¬ (x0 / 16 = 14 ∧ (1 < s.size ∧ x1 / 64 = 2) ∧ (2 < s.size ∧ x2 / 64 = 2)) by omega)]
  by_cases q : x1 / 64 = 2 ∧ x2 / 64 = 2 ∧ x3 / 64 = 2
  · rw [if_pos (show x0 / 8 = 30 ∧ (1 < s.size ∧ x1 / 64 = 2) ∧ (2 < s.size ∧ x2 / 64 = 2) ∧ (3 < s.size ∧ x3 / 64 = 2) by omega)]
    by_cases q2 : x0 % 8 * 262144 + x1 % 64 * 4096 + x2 % 64 * 64 + x3 % 64 ≥ 65536 ∧ (x0 % 8 * 262144 + x1 % 64 * 4096 + x2 % 64 * 64 + x3 % 64 < 55296 ∨ (57344 ≤ x0 % 8 * 262144 + x1 % 64 * 4096 + x2 % 64 * 64 + x3 % 64 ∧ x0 % 8 * 262144 + x1 % 64 * 4096 + x2 % 64 * 64 + x3 % 64 ≤ 1114111))
    · rw [if_pos (key.mpr ⟨q.1, q.2.1, q.2.2, q2.1, by omega⟩), if_pos q2]
    · rw [if_neg (fun x => q2 (by have := key.mp x; omega)), if_neg q2]; rfl
  · rw [if_neg (fun x => q (by have := key.mp x; omega)), if_neg (by omega)]; rfl
theorem spec_Get_ev (s : ByteArray) : Ev (fun k => spec_Get.f k s) (getv s) := by
  unfold spec_Get.f getv
  by_cases h : s.size = 0
  · rw [if_pos h]; exact ev_pos ((str_nil s).mpr h) (Ev.now _)
  rw [if_neg h]
  refine ev_neg (fun x => h ((str_nil s).mp x)) (ev_pos (by omega) ?_)
  have e0 : bt s 0 = (bn s 0 : Int) := bn_bt s 0 (by omega)
  rw [e0]
  refine Ev.bind (spec_l1Long_ev (bn s 0)) ?_
  have hb := bn_lt s 0
  have bad : ∀ n : Int, (((dcv s).1 : Int), ((dcv s).2 : Int)) = (65533, 1) → Ev (fun k => spec_Get.j0 k s n true) (((dcv s).1 : Int), ((dcv s).2 : Int)) := by
    intro n e
    refine ev_eq (ev_succ ?_) e.symm
    simp only [spec_Get.j0]
    exact ev_pos (by trivial) (Ev.now _)
  by_cases h1 : bn s 0 < 128
  · have hl : longv (bn s 0) = 1 := by unfold longv; rw [if_pos h1]
    rw [hl]
    refine ev_neg (by omega) ?_
    rw [decide_eq_false (by omega)]
    refine ev_succ ?_
    have e1 : ∀ _ : Unit, wrap64 (bt s 0) = (bn s 0 : Int) := fun _ => by rw [e0, w64 (by omega) (by omega)]
    simp only [spec_Get.j0, e1 ()]
    refine ev_neg (by simp) (ev_pos (by omega) (ev_neg (by omega) (ev_succ ?_)))
    simp only [spec_Get.j1]
    exact ev_eq (get_end s (bn s 0) 1 (by omega) (by omega)) (tell1 s h1)
  by_cases h2 : 192 ≤ bn s 0 ∧ bn s 0 < 224
  · have hl : longv (bn s 0) = 2 := by unfold longv; rw [if_neg h1, if_pos h2]
    rw [hl]
    refine ev_neg (by omega) ?_
    by_cases hs : s.size < 2
    · rw [decide_eq_true (by omega)]
      refine bad _ ?_
      unfold dcv Lib.decodeN
      rw [if_neg h1, if_neg (by omega), if_neg (by omega), if_neg (by omega)]; rfl
    · rw [decide_eq_false (by omega)]
      refine get_j0 s 2 32 (bn s 0 % 32) (by omega) (by omega) (by omega) (by decide +kernel) (by omega) (by decide +kernel) rfl ?_
      exact get_step s _ 2 1 (by omega) (by omega) (by omega) (by omega) (ev_eq (get_end s _ 2 (by omega) (by omega)) (tell2 s (by omega) h2))
  by_cases h3 : 224 ≤ bn s 0 ∧ bn s 0 < 240
  · have hl : longv (bn s 0) = 3 := by unfold longv; rw [if_neg h1, if_neg h2, if_pos h3]
    rw [hl]
    refine ev_neg (by omega) ?_
    by_cases hs : s.size < 3
    · rw [decide_eq_true (by omega)]
      refine bad _ ?_
      unfold dcv Lib.decodeN
      rw [if_neg h1, if_neg (by omega), if_neg (by omega), if_neg (by omega)]; rfl
    · rw [decide_eq_false (by omega)]
      refine get_j0 s 3 16 (bn s 0 % 16) (by omega) (by omega) (by omega) (by decide +kernel) (by omega) (by decide +kernel) rfl ?_
      exact get_step s _ 3 1 (by omega) (by omega) (by omega) (by omega) (get_step s _ 3 2 (by omega) (by omega) (by omega) (by omega) (ev_eq (get_end s _ 3 (by omega) (by omega)) (tell3 s (by omega) h3)))
  by_cases h4 : 240 ≤ bn s 0 ∧ bn s 0 < 248
  · have hl : longv (bn s 0) = 4 := by unfold longv; rw [if_neg h1, if_neg h2, if_neg h3, if_pos h4]
    rw [hl]
    refine ev_neg (by omega) ?_
    by_cases hs : s.size < 4
    · rw [decide_eq_true (by omega)]
      refine bad _ ?_
      unfold dcv Lib.decodeN
      rw [if_neg h1, if_neg (by omega), if_neg (by omega), if_neg (by omega)]; rfl
    · rw [decide_eq_false (by omega)]
      refine get_j0 s 4 8 (bn s 0 % 8) (by omega) (by omega) (by omega) (by decide +kernel) (by omega) (by decide +kernel) rfl ?_
      exact get_step s _ 4 1 (by omega) (by omega) (by omega) (by omega) (get_step s _ 4 2 (by omega) (by omega) (by omega) (by omega) (get_step s _ 4 3 (by omega) (by omega) (by omega) (by omega) (ev_eq (get_end s _ 4 (by omega) (by omega)) (tell4 s (by omega) h4))))
  · have hl : longv (bn s 0) = 0 := by unfold longv; rw [if_neg h1, if_neg h2, if_neg h3, if_neg h4]
    rw [hl]
    refine ev_pos (by omega) (bad _ ?_)
    unfold dcv Lib.decodeN
    rw [if_neg h1, if_neg (by omega), if_neg (by omega), if_neg (by omega)]; rfl

theorem rd_nat (l : List Int) (i : Nat) : rd l (i : Int) = l.getD i 0 := by simp [rd]
theorem rd_at {l : List Int} {i : Nat} (h : i < l.length) : rd l (i : Int) = l[i] := by rw [rd_nat, List.getD_eq_getElem?_getD, List.getElem?_eq_getElem h]; rfl
theorem take_set_succ {α : Type} (l : List α) (i : Nat) (a : α) (h : i < l.length) : (l.set i a).take (i + 1) = l.take i ++ [a] := by
  rw [List.take_succ_eq_append_getElem (by simpa using h), List.take_set, List.set_eq_of_length_le (by rw [List.length_take]; omega)]
  simp

theorem rdOf_at {α : Type} (d : α) {l : List α} {i : Nat} (h : i < l.length) : rdOf d l (i : Int) = l[i] := by
  unfold rdOf; rw [Int.toNat_natCast, List.getD_eq_getElem?_getD, List.getElem?_eq_getElem h]; rfl
theorem maxLen_eq : maxLen = 9223372036854775807 := rfl

theorem bn_append (s t : ByteArray) (i : Nat) : bn (s ++ t) i = if i < s.size then bn s i else bn t (i - s.size) := by
  have hd : (s ++ t).data = s.data ++ t.data := ByteArray.data_append
  have hg : ∀ (u : ByteArray) (j : Nat), u.get! j = u.data[j]! := fun u j => by cases u; rfl
  have hsz : s.size = s.data.size := rfl
  unfold bn
  rw [hg, hg, hg, hd]
  by_cases h : i < s.size
  · rw [if_pos h]
    rw [hsz] at h
    congr 1
    rw [getElem!_pos s.data i h, getElem!_pos (s.data ++ t.data) i (by rw [Array.size_append]; omega), Array.getElem_append_left h]
  · rw [if_neg h]
    rw [hsz] at h ⊢
    congr 1
    by_cases h2 : i - s.data.size < t.data.size
    · rw [getElem!_pos t.data _ h2, getElem!_pos (s.data ++ t.data) i (by rw [Array.size_append]; omega), Array.getElem_append_right (by omega)]
    · rw [getElem!_neg t.data _ h2, getElem!_neg (s.data ++ t.data) i (by rw [Array.size_append]; omega)]
/-- A text that may be the beginning of a rune's bytes, and is not all of them. -/
def begunv (s : ByteArray) : Bool := if s.size = 0 then true else if s.size ≤ 3 then !(fullv s) else false
theorem impl_isBegun_eq (s : ByteArray) : impl_isBegun.f s = some (begunv s) := by
  unfold impl_isBegun.f begunv
  by_cases h : s.size = 0
  · rw [if_pos ((str_nil s).mpr h), if_pos h]
  · rw [if_neg (fun x => h ((str_nil s).mp x)), if_neg h, full_eq]
    by_cases h3 : s.size ≤ 3
    · rw [if_pos (by omega), if_pos h3]; rfl
    · rw [if_neg (by omega), if_neg h3]
theorem firstT_spec (b : Nat) (h0 : 192 ≤ b) (h1 : b < 248) : (b < 194 ∧ Lib.firstT b = 241) ∨ (194 ≤ b ∧ b < 224 ∧ Lib.firstT b = 2) ∨ (b = 224 ∧ Lib.firstT b = 19) ∨ (225 ≤ b ∧ b < 237 ∧ Lib.firstT b = 3) ∨ (b = 237 ∧ Lib.firstT b = 35) ∨
    (238 ≤ b ∧ b < 240 ∧ Lib.firstT b = 3) ∨ (b = 240 ∧ Lib.firstT b = 52) ∨ (241 ≤ b ∧ b < 244 ∧ Lib.firstT b = 4) ∨ (b = 244 ∧ Lib.firstT b = 68) ∨ (245 ≤ b ∧ Lib.firstT b = 241) := by
  unfold Lib.firstT
  rw [if_neg (by omega)]
  by_cases h : b < 194
  · rw [if_pos h]; omega
  rw [if_neg h]
  by_cases h : b < 224
  · rw [if_pos h]; omega
  rw [if_neg h]
  by_cases h : b = 224
  · rw [if_pos h]; omega
  rw [if_neg h]
  by_cases h : b < 237
  · rw [if_pos h]; omega
  rw [if_neg h]
  by_cases h : b = 237
  · rw [if_pos h]; omega
  rw [if_neg h]
  by_cases h : b < 240
  · rw [if_pos h]; omega
  rw [if_neg h]
  by_cases h : b = 240
  · rw [if_pos h]; omega
  rw [if_neg h]
  by_cases h : b < 244
  · rw [if_pos h]; omega
  rw [if_neg h]
  by_cases h : b = 244
  · rw [if_pos h]; omega
  rw [if_neg h]; omega
/-- As a proposition: a text begins with a whole rune, or with what is none. -/
theorem fullv_iff (s : ByteArray) (h : s.size ≠ 0) : fullv s = true ↔ (Lib.firstT (bn s 0) % 8 ≤ s.size ∨ (1 < s.size ∧ (bn s 1 < Lib.accLo (Lib.firstT (bn s 0) / 16) ∨ Lib.accHi (Lib.firstT (bn s 0) / 16) < bn s 1)) ∨ (2 < s.size ∧ (bn s 2 < 128 ∨ 191 < bn s 2))) := by
  unfold fullv utf8_FullRuneInString.f bn
  rw [Option.getD_some, if_neg h]
  split
  · simp_all
  · split
    · simp_all
    · split
      · simp_all
      · rename_i h1 h2 h3
        simp only [Bool.false_eq_true, false_iff, not_or]
        exact ⟨h1, h2, h3⟩
theorem long_full (s : ByteArray) (h : s.size ≠ 0) (hl : longv (bn s 0) ≤ s.size) : fullv s = true := by
  rw [fullv_iff s h]
  left
  have hb := bn_lt s 0
  by_cases h1 : bn s 0 < 128
  · have : Lib.firstT (bn s 0) = 240 := by unfold Lib.firstT; rw [if_pos h1]
    omega
  by_cases h2 : bn s 0 < 194
  · have : Lib.firstT (bn s 0) = 241 := by unfold Lib.firstT; rw [if_neg h1, if_pos h2]
    omega
  by_cases h3 : 248 ≤ bn s 0
  · have : Lib.firstT (bn s 0) = 241 := by unfold Lib.firstT; rw [if_neg h1, if_neg h2, if_neg (by omega), if_neg (by omega), if_neg (by omega), if_neg (by omega), if_neg (by omega), if_neg (by omega), if_neg (by omega), if_neg (by omega)]
    omega
  have hl2 : (bn s 0 < 224 → 2 ≤ s.size) ∧ (224 ≤ bn s 0 → bn s 0 < 240 → 3 ≤ s.size) ∧ (240 ≤ bn s 0 → 4 ≤ s.size) := by
    unfold longv at hl
    rw [if_neg h1] at hl
    by_cases q1 : bn s 0 < 224
    · rw [if_pos (by omega)] at hl; omega
    · rw [if_neg (by omega)] at hl
      by_cases q2 : bn s 0 < 240
      · rw [if_pos (by omega)] at hl; omega
      · rw [if_neg (by omega), if_pos (by omega)] at hl; omega
  have hF := firstT_spec (bn s 0) (by omega) (by omega)
  omega
def fills : List ByteArray := [(⟨#[128, 128, 128]⟩ : ByteArray), (⟨#[160, 128, 128]⟩ : ByteArray), (⟨#[144, 128, 128]⟩ : ByteArray), (⟨#[191, 191, 191]⟩ : ByteArray), (⟨#[159, 191, 191]⟩ : ByteArray), (⟨#[143, 191, 191]⟩ : ByteArray)]
theorem fills_size : ∀ f ∈ fills, f.size = 3 := by
  intro f hf
  simp only [fills, List.mem_cons, List.not_mem_nil, or_false] at hf
  rcases hf with rfl | rfl | rfl | rfl | rfl | rfl <;> rfl
/-- What is told of a text that is filled up. -/
theorem filled (s : ByteArray) (m n : Nat) (hs : s.size = m) (hm : 1 ≤ m) (hmn : m < n) (hn : n ≤ 4) (f : ByteArray) (hf : f.size = 3) :
    (getv (s ++ f.extract 0 (n - m))).2 = ((Lib.decodeN n (bn s 0) (if 1 < m then bn s 1 else bn f (1 - m)) (if 2 < m then bn s 2 else if 2 < n then bn f (2 - m) else 0) (if 3 < n then bn f (3 - m) else 0)).2 : Int) := by
  have hz : (s ++ f.extract 0 (n - m)).size = n := by rw [ByteArray.size_append, ByteArray.size_extract]; omega
  have hx : ∀ j, bn (f.extract 0 (n - m)) j = if j < n - m then bn f j else 0 := by
    intro j
    have hg : ∀ (u : ByteArray) (j : Nat), u.get! j = u.data[j]! := fun u j => by cases u; rfl
    have hfs : f.data.size = 3 := hf
    unfold bn
    rw [hg, hg, ByteArray.data_extract]
    by_cases h : j < n - m
    · rw [if_pos h, getElem!_pos _ j (by rw [Array.size_extract]; omega), Array.getElem_extract, getElem!_pos f.data j (by omega)]
      simp only [Nat.zero_add]
    · rw [if_neg h, getElem!_neg _ j (by rw [Array.size_extract]; omega)]; rfl
  unfold getv
  rw [if_neg (by omega)]
  unfold dcv
  rw [hz]
  simp only [bn_append, hs, hx]
  congr 3
  · rw [if_pos (by omega)]
  · by_cases h : 1 < m
    · rw [if_pos h, if_pos h]
    · rw [if_neg h, if_neg h, if_pos (by omega)]
  · by_cases h : 2 < m
    · rw [if_pos h, if_pos h]
    · rw [if_neg h, if_neg h]
      by_cases h2 : 2 < n
      · rw [if_pos h2, if_pos (by omega)]
      · rw [if_neg h2, if_neg (by omega)]
  · rw [if_neg (by omega)]
    by_cases h2 : 3 < n
    · rw [if_pos h2, if_pos (by omega)]
    · rw [if_neg h2, if_neg (by omega)]
theorem long_range (b : Nat) : (longv b = 2 → 192 ≤ b ∧ b < 224) ∧ (longv b = 3 → 224 ≤ b ∧ b < 240) ∧ (longv b = 4 → 240 ≤ b ∧ b < 248) ∧ longv b ≤ 4 := by
  unfold longv
  repeat' split
  all_goals omega
theorem part_iff (s : ByteArray) (h : s.size ≠ 0) (hl : s.size < longv (bn s 0)) :
    (∃ f ∈ fills, (getv (s ++ f.extract 0 (longv (bn s 0) - s.size))).2 = (longv (bn s 0) : Int)) ↔ fullv s = false := by
  obtain ⟨r2, r3, r4, rl⟩ := long_range (bn s 0)
  have hb1 := bn_lt s 1
  have hb2 := bn_lt s 2
  have key : ∀ f ∈ fills, (getv (s ++ f.extract 0 (longv (bn s 0) - s.size))).2 = _ := fun f hf => filled s s.size (longv (bn s 0)) rfl (by omega) hl rl f (fills_size f hf)
  have conv : (∃ f ∈ fills, (getv (s ++ f.extract 0 (longv (bn s 0) - s.size))).2 = (longv (bn s 0) : Int)) ↔
      ∃ f ∈ fills, (Lib.decodeN (longv (bn s 0)) (bn s 0) (if 1 < s.size then bn s 1 else bn f (1 - s.size)) (if 2 < s.size then bn s 2 else if 2 < longv (bn s 0) then bn f (2 - s.size) else 0) (if 3 < longv (bn s 0) then bn f (3 - s.size) else 0)).2 = longv (bn s 0) := by
    constructor
    · rintro ⟨f, hf, e⟩
      exact ⟨f, hf, by rw [key f hf] at e; omega⟩
    · rintro ⟨f, hf, e⟩
      exact ⟨f, hf, by rw [key f hf]; omega⟩
  rw [conv]
  clear conv key
  rw [show (fullv s = false) ↔ ¬ (fullv s = true) by simp, fullv_iff s h]
  have f00 : bn (⟨#[128, 128, 128]⟩ : ByteArray) 0 = 128 := rfl
  have f01 : bn (⟨#[128, 128, 128]⟩ : ByteArray) 1 = 128 := rfl
  have f02 : bn (⟨#[128, 128, 128]⟩ : ByteArray) 2 = 128 := rfl
  have f10 : bn (⟨#[160, 128, 128]⟩ : ByteArray) 0 = 160 := rfl
  have f11 : bn (⟨#[160, 128, 128]⟩ : ByteArray) 1 = 128 := rfl
  have f12 : bn (⟨#[160, 128, 128]⟩ : ByteArray) 2 = 128 := rfl
  have f20 : bn (⟨#[144, 128, 128]⟩ : ByteArray) 0 = 144 := rfl
  have f21 : bn (⟨#[144, 128, 128]⟩ : ByteArray) 1 = 128 := rfl
  have f22 : bn (⟨#[144, 128, 128]⟩ : ByteArray) 2 = 128 := rfl
  have f30 : bn (⟨#[191, 191, 191]⟩ : ByteArray) 0 = 191 := rfl
  have f31 : bn (⟨#[191, 191, 191]⟩ : ByteArray) 1 = 191 := rfl
  have f32 : bn (⟨#[191, 191, 191]⟩ : ByteArray) 2 = 191 := rfl
  have f40 : bn (⟨#[159, 191, 191]⟩ : ByteArray) 0 = 159 := rfl
  have f41 : bn (⟨#[159, 191, 191]⟩ : ByteArray) 1 = 191 := rfl
  have f42 : bn (⟨#[159, 191, 191]⟩ : ByteArray) 2 = 191 := rfl
  have f50 : bn (⟨#[143, 191, 191]⟩ : ByteArray) 0 = 143 := rfl
  have f51 : bn (⟨#[143, 191, 191]⟩ : ByteArray) 1 = 191 := rfl
  have f52 : bn (⟨#[143, 191, 191]⟩ : ByteArray) 2 = 191 := rfl
  obtain ⟨b0, e0⟩ : ∃ x, bn s 0 = x := ⟨_, rfl⟩
  obtain ⟨b1, e1⟩ : ∃ x, bn s 1 = x := ⟨_, rfl⟩
  obtain ⟨b2, e2⟩ : ∃ x, bn s 2 = x := ⟨_, rfl⟩
  obtain ⟨m, em⟩ : ∃ x, s.size = x := ⟨_, rfl⟩
  obtain ⟨n, en⟩ : ∃ x, longv b0 = x := ⟨_, rfl⟩
  rw [e0, em] at hl ⊢
  rw [e0] at r2 r3 r4 rl
  rw [e1] at hb1 ⊢
  rw [e2] at hb2 ⊢
  rw [em] at h
  rw [en] at hl r2 r3 r4 rl ⊢
  have hmn : (m = 1 ∧ n = 2) ∨ (m = 1 ∧ n = 3) ∨ (m = 1 ∧ n = 4) ∨ (m = 2 ∧ n = 3) ∨ (m = 2 ∧ n = 4) ∨ (m = 3 ∧ n = 4) := by omega
  simp only [fills, List.mem_cons, List.not_mem_nil, or_false, exists_eq_or_imp, exists_eq_left]
  have hF := firstT_spec b0
  generalize Lib.firstT b0 = F at hF ⊢
  clear e0 e1 e2 em en
  rcases hmn with ⟨rfl, rfl⟩ | ⟨rfl, rfl⟩ | ⟨rfl, rfl⟩ | ⟨rfl, rfl⟩ | ⟨rfl, rfl⟩ | ⟨rfl, rfl⟩
  all_goals simp only [Nat.lt_irrefl, Nat.reduceLT, Nat.reduceSub, if_true, if_false, f00, f01, f02, f10, f11, f12, f20, f21, f22, f30, f31, f32, f40, f41, f42, f50, f51, f52, false_and, true_and, or_false]
  · have hr := r2 rfl
    simp only [width2 2 b0 _ _ _ (show b0 / 32 = 6 by omega) (by omega), true_and, and_true, false_and, and_false, or_false, false_or]
    rcases hF (by omega) (by omega) with ⟨_, rfl⟩ | ⟨_, _, rfl⟩ | ⟨_, rfl⟩ | ⟨_, _, rfl⟩ | ⟨_, rfl⟩ | ⟨_, _, rfl⟩ | ⟨_, rfl⟩ | ⟨_, _, rfl⟩ | ⟨_, rfl⟩ | ⟨_, rfl⟩ <;> (constructor <;> intro h_ <;> omega)
  · have hr := r3 rfl
    simp only [width3 3 b0 _ _ _ (show b0 / 16 = 14 by omega) (by omega), true_and, and_true, false_and, and_false, or_false, false_or]
    rcases hF (by omega) (by omega) with ⟨_, rfl⟩ | ⟨_, _, rfl⟩ | ⟨_, rfl⟩ | ⟨_, _, rfl⟩ | ⟨_, rfl⟩ | ⟨_, _, rfl⟩ | ⟨_, rfl⟩ | ⟨_, _, rfl⟩ | ⟨_, rfl⟩ | ⟨_, rfl⟩ <;> (constructor <;> intro h_ <;> omega)
  · have hr := r4 rfl
    simp only [width4 4 b0 _ _ _ (show b0 / 8 = 30 by omega) (by omega), true_and, and_true, false_and, and_false, or_false, false_or]
    rcases hF (by omega) (by omega) with ⟨_, rfl⟩ | ⟨_, _, rfl⟩ | ⟨_, rfl⟩ | ⟨_, _, rfl⟩ | ⟨_, rfl⟩ | ⟨_, _, rfl⟩ | ⟨_, rfl⟩ | ⟨_, _, rfl⟩ | ⟨_, rfl⟩ | ⟨_, rfl⟩ <;> (constructor <;> intro h_ <;> omega)
  · have hr := r3 rfl
    simp only [width3 3 b0 _ _ _ (show b0 / 16 = 14 by omega) (by omega), true_and, and_true, false_and, and_false, or_false, false_or]
    rcases hF (by omega) (by omega) with ⟨_, rfl⟩ | ⟨_, _, rfl⟩ | ⟨_, rfl⟩ | ⟨_, _, rfl⟩ | ⟨_, rfl⟩ | ⟨_, _, rfl⟩ | ⟨_, rfl⟩ | ⟨_, _, rfl⟩ | ⟨_, rfl⟩ | ⟨_, rfl⟩ <;>
      simp only [Lib.accLo, Lib.accHi, true_and, and_true, false_and, and_false, or_false, false_or, Nat.reduceDiv, Nat.reduceMod, Nat.reduceEqDiff, if_true, if_false] <;> (constructor <;> intro h_ <;> omega)
  · have hr := r4 rfl
    simp only [width4 4 b0 _ _ _ (show b0 / 8 = 30 by omega) (by omega), true_and, and_true, false_and, and_false, or_false, false_or]
    rcases hF (by omega) (by omega) with ⟨_, rfl⟩ | ⟨_, _, rfl⟩ | ⟨_, rfl⟩ | ⟨_, _, rfl⟩ | ⟨_, rfl⟩ | ⟨_, _, rfl⟩ | ⟨_, rfl⟩ | ⟨_, _, rfl⟩ | ⟨_, rfl⟩ | ⟨_, rfl⟩ <;>
      simp only [Lib.accLo, Lib.accHi, true_and, and_true, false_and, and_false, or_false, false_or, Nat.reduceDiv, Nat.reduceMod, Nat.reduceEqDiff, if_true, if_false] <;> (constructor <;> intro h_ <;> omega)
  · have hr := r4 rfl
    simp only [width4 4 b0 _ _ _ (show b0 / 8 = 30 by omega) (by omega), true_and, and_true, false_and, and_false, or_false, false_or]
    rcases hF (by omega) (by omega) with ⟨_, rfl⟩ | ⟨_, _, rfl⟩ | ⟨_, rfl⟩ | ⟨_, _, rfl⟩ | ⟨_, rfl⟩ | ⟨_, _, rfl⟩ | ⟨_, rfl⟩ | ⟨_, _, rfl⟩ | ⟨_, rfl⟩ | ⟨_, rfl⟩ <;>
      simp only [Lib.accLo, Lib.accHi, true_and, and_true, false_and, and_false, or_false, false_or, Nat.reduceDiv, Nat.reduceMod, Nat.reduceEqDiff, if_true, if_false] <;> (constructor <;> intro h_ <;> omega)
theorem spec_l1Part_ev (s : ByteArray) (hs : s.size < 4611686018427387904) : Ev (fun k => spec_l1Part.f k s) (begunv s) := by
  unfold spec_l1Part.f begunv
  by_cases h : s.size = 0
  · rw [if_pos h]; exact ev_pos ((str_nil s).mpr h) (Ev.now _)
  rw [if_neg h]
  refine ev_neg (fun x => h ((str_nil s).mp x)) (ev_pos (by omega) ?_)
  have e0 : bt s 0 = (bn s 0 : Int) := bn_bt s 0 (by omega)
  rw [e0]
  refine Ev.bind (spec_l1Long_ev (bn s 0)) ?_
  have rl := (long_range (bn s 0)).2.2.2
  by_cases hl : longv (bn s 0) ≤ s.size
  · refine ev_pos (by omega) (ev_eq (Ev.now _) ?_)
    split
    · rw [long_full s h hl]; rfl
    · rfl
  · refine ev_neg (by omega) ?_
    rw [if_pos (by omega)]
    have hp : ∀ _ : Unit, _ := fun _ => part_iff s h (by omega)
    generalize longv (bn s 0) = n at *
    have go : ∀ (d i : Nat), i + d = fills.length → ∃ b, Ev (fun k => spec_l1Part.l0 k s (n : Int) fills (fills.length : Int) (i : Int)) b ∧ (b = true ↔ ∃ f ∈ fills.drop i, (getv (s ++ f.extract 0 (n - s.size))).2 = (n : Int)) := by
      intro d
      induction d with
      | zero =>
        intro i hi
        refine ⟨false, ev_succ ?_, by rw [List.drop_of_length_le (by omega)]; simp⟩
        simp only [spec_l1Part.l0]
        exact ev_neg (by omega) (Ev.now _)
      | succ d ih =>
        intro i hi
        obtain ⟨b, e, hb0⟩ := ih (i + 1) (by omega)
        have hb : ∀ _ : Unit, _ := fun _ => hb0
        clear hb0
        have hil : i < fills.length := by omega
        have hf := fills_size _ (List.getElem_mem hil)
        have hfl : fills.length = 6 := rfl
        have w1 : ∀ _ : Unit, wrap64 ((i : Int) + 1) = ((i + 1 : Nat) : Int) := fun _ => by rw [w64 (by omega) (by omega)]; omega
        have w2 : ∀ _ : Unit, wrap64 ((n : Int) - (s.size : Int)) = ((n - s.size : Nat) : Int) := fun _ => by rw [w64 (by omega) (by omega)]; omega
        have hx : (fills[i].extract 0 (n - s.size)).size ≤ 3 := by rw [ByteArray.size_extract]; omega
        rw [List.drop_eq_getElem_cons hil]
        by_cases q : (getv (s ++ fills[i].extract 0 (n - s.size))).2 = (n : Int)
        · refine ⟨true, ev_succ ?_, ⟨fun _ => ⟨_, List.mem_cons_self, q⟩, fun _ => rfl⟩⟩
          simp only [spec_l1Part.l0, rdOf_at ByteArray.empty hil, w1 (), w2 (), Int.toNat_natCast]
          exact ev_pos (by omega) (ev_pos (by omega) (ev_pos (by omega) (ev_pos (by omega) (ev_pos (by omega) (ev_pos (by omega) (Ev.bind (spec_Get_ev _) (ev_pos q (Ev.now _))))))))
        · refine ⟨b, ev_succ ?_, ?_⟩
          · simp only [spec_l1Part.l0, rdOf_at ByteArray.empty hil, w1 (), w2 (), Int.toNat_natCast]
            exact ev_pos (by omega) (ev_pos (by omega) (ev_pos (by omega) (ev_pos (by omega) (ev_pos (by omega) (ev_pos (by omega) (Ev.bind (spec_Get_ev _) (ev_neg q e)))))))
          · rw [hb ()]
            constructor
            · rintro ⟨f, hf, e⟩; exact ⟨f, List.mem_cons_of_mem _ hf, e⟩
            · rintro ⟨f, hf, e⟩
              rcases List.mem_cons.mp hf with rfl | hf
              · exact absurd e q
              · exact ⟨f, hf, e⟩
    obtain ⟨b, e, hb⟩ := go fills.length 0 (by omega)
    rw [List.drop_zero, hp ()] at hb
    refine ev_bind_some (ev_eq e ?_)
    cases b <;> cases hfv : fullv s <;> simp_all
theorem spec_FeederOk_ev (s : ByteArray) (hs : s.size < 4611686018427387904) : Ev (fun k => spec_FeederOk.f k s) (begunv s) := by
  unfold spec_FeederOk.f
  by_cases h : (s.size : Int) ≤ 3
  · exact ev_pos h (Ev.bind (spec_l1Part_ev s hs) (Ev.now _))
  · refine ev_neg h (ev_eq (Ev.now _) ?_)
    unfold begunv
    rw [if_neg (by omega), if_neg (by omega)]
theorem impl_FeederOk_eq (s : ByteArray) : impl_FeederOk.f s = some (begunv s) := by
  unfold impl_FeederOk.f
  rw [impl_isBegun_eq]; rfl

/-- Runes are told from the front while the text is no mere beginning; what is left, and what was told behind what was told before. -/
def fedv : Nat → ByteArray → List Int → ByteArray × List Int
  | 0, s, o => (s, o)
  | f + 1, s, o => if begunv s = true then (s, o) else fedv f (s.extract (getv s).2.toNat s.size) (o ++ [(getv s).1])
theorem begunv_pos (s : ByteArray) (h : ¬ begunv s = true) : s.size ≠ 0 := fun e => h (by unfold begunv; rw [if_pos e])
theorem begunv_le (s : ByteArray) (h : begunv s = true) : s.size ≤ 3 := by
  unfold begunv at h
  by_cases h0 : s.size = 0
  · omega
  · rw [if_neg h0] at h
    by_cases h3 : s.size ≤ 3
    · exact h3
    · rw [if_neg h3] at h; cases h
theorem fedv_ok : ∀ (f : Nat) (s : ByteArray) (o : List Int), s.size ≤ f → begunv (fedv f s o).1 = true ∧ (fedv f s o).2.length ≤ o.length + s.size
  | 0, s, o, h => ⟨by show begunv s = true; unfold begunv; rw [if_pos (by omega)], by unfold fedv; simp⟩
  | f + 1, s, o, h => by
    unfold fedv
    by_cases hb : begunv s = true
    · rw [if_pos hb]; exact ⟨hb, by simp⟩
    · rw [if_neg hb]
      have hp := begunv_pos s hb
      have hg := getv_bounds s hp
      have := fedv_ok f (s.extract (getv s).2.toNat s.size) (o ++ [(getv s).1]) (by rw [ext_size]; omega)
      refine ⟨this.1, ?_⟩
      have h2 := this.2
      rw [ext_size, List.length_append] at h2
      simp only [List.length_singleton] at h2
      omega
theorem spec_Feed_l0_ev : ∀ (f : Nat) (s : ByteArray) (o : List Int), s.size ≤ f → o.length + s.size < 17592186044416 → Ev (fun k => spec_Feed.l0 k o s) (fedv f s o) := by
  intro f
  induction f with
  | zero =>
    intro s o h hl
    refine ev_succ ?_
    simp only [spec_Feed.l0]
    exact ev_pos ((str_nil s).mpr (by omega)) (Ev.now _)
  | succ f ih =>
    intro s o h hl
    refine ev_succ ?_
    simp only [spec_Feed.l0]
    unfold fedv
    by_cases h0 : s.size = 0
    · refine ev_pos ((str_nil s).mpr h0) (ev_eq (Ev.now _) ?_)
      rw [if_pos (by unfold begunv; rw [if_pos h0])]
    · refine ev_neg (fun x => h0 ((str_nil s).mp x)) (Ev.bind (spec_l1Part_ev s (by omega)) ?_)
      by_cases hb : begunv s = true
      · rw [if_pos hb]; exact ev_pos hb (Ev.now _)
      · rw [if_neg hb]
        have hg := getv_bounds s h0
        exact ev_neg hb (Ev.bind (spec_Get_ev s) (ev_pos (by omega) (ev_pos (by omega) (ev_pos (by omega) (ih _ _ (by rw [ext_size]; omega) (by rw [ext_size, List.length_append]; simp only [List.length_singleton]; omega))))))
theorem impl_Feed_l0_ev : ∀ (f : Nat) (s : ByteArray) (o : List Int), s.size ≤ f → o.length + s.size < 17592186044416 → Ev (fun k => impl_Feed.l0 k s o) (fedv f s o) := by
  intro f
  induction f with
  | zero =>
    intro s o h hl
    refine ev_succ ?_
    simp only [impl_Feed.l0, impl_isBegun_eq, Option.bind_some]
    have : begunv s = true := by unfold begunv; rw [if_pos (by omega)]
    exact ev_pos this (Ev.now _)
  | succ f ih =>
    intro s o h hl
    refine ev_succ ?_
    simp only [impl_Feed.l0, impl_isBegun_eq, Option.bind_some]
    unfold fedv
    by_cases hb : begunv s = true
    · rw [if_pos hb]; exact ev_pos hb (Ev.now _)
    · rw [if_neg hb]
      have h0 := begunv_pos s hb
      have hg := getv_bounds s h0
      exact ev_neg hb (ev_bind_of (impl_Get_eq s) (ev_pos (by omega) (ev_pos (by omega) (ev_pos (by omega) (ih _ _ (by rw [ext_size]; omega) (by rw [ext_size, List.length_append]; simp only [List.length_singleton]; omega))))))
/-- A feeder that is fed a byte. -/
def feedv (s : ByteArray) (b : Int) : ByteArray × List Int := if begunv s = true then fedv (s ++ strOfNums [b]).size (s ++ strOfNums [b]) [] else ((⟨#[]⟩ : ByteArray), [])
theorem one_size (b : Int) : (strOfNums [b]).size = 1 := by rw [strOfNums_size]; rfl
theorem feedv_ok (s : ByteArray) (b : Int) : begunv (feedv s b).1 = true ∧ (feedv s b).2.length ≤ 4 := by
  unfold feedv
  by_cases h : begunv s = true
  · rw [if_pos h]
    have := fedv_ok (s ++ strOfNums [b]).size (s ++ strOfNums [b]) [] (Nat.le_refl _)
    have h3 := begunv_le s h
    have hz : (s ++ strOfNums [b]).size = s.size + 1 := by rw [ByteArray.size_append, one_size]
    refine ⟨this.1, ?_⟩
    have h2 := this.2
    simp only [List.length_nil] at h2
    omega
  · rw [if_neg h]; exact ⟨rfl, by simp⟩
theorem spec_Feed_ev (s : ByteArray) (b : Int) (hs : s.size < 4611686018427387904) : Ev (fun k => spec_Feed.f k s b) (feedv s b) := by
  unfold spec_Feed.f feedv
  refine ev_bind_some (Ev.bind (spec_FeederOk_ev s hs) ?_)
  by_cases h : begunv s = true
  · have h3 := begunv_le s h
    have hz : (s ++ strOfNums [b]).size = s.size + 1 := by rw [ByteArray.size_append, one_size]
    rw [if_pos h]
    exact ev_pos h (ev_bind_some (ev_pos (by rw [one_size]; omega) (spec_Feed_l0_ev _ _ _ (Nat.le_refl _) (by rw [hz]; simp only [List.length_nil]; omega))))
  · rw [if_neg h]; exact ev_neg h (Ev.now _)
theorem impl_Feed_ev (s : ByteArray) (b : Int) : Ev (fun k => impl_Feed.f k s b) (feedv s b) := by
  unfold impl_Feed.f feedv
  simp only [impl_FeederOk_eq, Option.bind_some]
  by_cases h : begunv s = true
  · have h3 := begunv_le s h
    have hz : (s ++ strOfNums [b]).size = s.size + 1 := by rw [ByteArray.size_append, one_size]
    rw [if_pos h]
    exact ev_pos h (ev_pos (by rw [one_size]; omega) (impl_Feed_l0_ev _ _ _ (Nat.le_refl _) (by rw [hz]; simp only [List.length_nil]; omega)))
  · rw [if_neg h]; exact ev_neg h (Ev.now _)

theorem laws_eqInt64S_ev (l : List Int) (hl : l.length < 9223372036854775807) : Ev (fun k => laws_eqInt64S.f k l l) true := by
  have go : ∀ (d i : Nat), i + d = l.length → Ev (fun k => laws_eqInt64S.l0 k l l (i : Int)) true := by
    intro d
    induction d with
    | zero =>
      intro i h
      refine ev_succ ?_
      simp only [laws_eqInt64S.l0]
      exact ev_neg (by omega) (Ev.now _)
    | succ d ih =>
      intro i h
      refine ev_succ ?_
      simp only [laws_eqInt64S.l0, w64 (x := (i : Int) + 1) (by omega) (by omega)]
      exact ev_pos (by omega) (ev_pos (by omega) (ev_pos (by omega) (ev_pos (by first | rfl | trivial) (ih (i + 1) (by omega)))))
  unfold laws_eqInt64S.f
  exact ev_pos rfl (go l.length 0 (by omega))

def mks : Nat → Int → List Int
  | 0, _ => []
  | n + 1, a => a :: mks n (a + 1)
theorem mks_length : ∀ (n : Nat) (a : Int), (mks n a).length = n
  | 0, _ => rfl
  | n + 1, a => by simp [mks, mks_length n]
theorem mks_get : ∀ (n : Nat) (a : Int) (i : Nat) (h : i < (mks n a).length), (mks n a)[i] = a + i
  | n + 1, a, 0, _ => by simp [mks]
  | n + 1, a, i + 1, h => by
    simp only [mks, List.getElem_cons_succ]
    rw [mks_get n (a + 1) i]; omega

theorem laws_markInt64S_ev (l : List Int) (a : Int) (ha : 0 ≤ a) (hl : a + l.length < 9223372036854775807) : Ev (fun k => laws_markInt64S.f k l a) (a + l.length, mks l.length a) := by
  have go : ∀ (d i : Nat) (m : List Int) (a : Int), 0 ≤ a → a + d < 9223372036854775807 → i + d = l.length → m.length = l.length → Ev (fun k => laws_markInt64S.l0 k m a (i : Int)) (a + d, m.take i ++ mks d a) := by
    intro d
    induction d with
    | zero =>
      intro i m a h0 h1 h hm
      refine ev_succ ?_
      simp only [laws_markInt64S.l0]
      refine ev_neg (by omega) ?_
      rw [List.take_of_length_le (by omega)]
      simp only [mks, List.append_nil, Int.natCast_zero, Int.add_zero]
      exact Ev.now _
    | succ d ih =>
      intro i m a h0 h1 h hm
      refine ev_succ ?_
      simp only [laws_markInt64S.l0, w64 (x := (i : Int) + 1) (by omega) (by omega), w64 (x := a + 1) (by omega) (by omega)]
      refine ev_pos (by omega) (ev_pos (by omega) ?_)
      have := ih (i + 1) (m.set (i : Int).toNat a) (a + 1) (by omega) (by omega) (by omega) (by simpa using hm)
      refine ev_eq this ?_
      rw [show (i : Int).toNat = i by omega, take_set_succ _ _ _ (by omega), List.append_assoc, List.singleton_append]
      simp only [mks, Prod.mk.injEq, and_true]; omega
  unfold laws_markInt64S.f
  have := go l.length 0 l a ha (by omega) (by omega) rfl
  simpa using this

theorem laws_heldInt64S_ev (n : Nat) (a : Int) (ha : 0 ≤ a) (hl : a + n < 9223372036854775807) : Ev (fun k => laws_heldInt64S.f k (mks n a) a) (a + n) := by
  have go : ∀ (d i : Nat), i + d = n → Ev (fun k => laws_heldInt64S.l0 k (mks n a) (a + i) (i : Int)) (a + n) := by
    intro d
    induction d with
    | zero =>
      intro i h
      refine ev_succ ?_
      simp only [laws_heldInt64S.l0]
      refine ev_neg (by rw [mks_length]; omega) ?_
      rw [show i = n by omega]
      exact Ev.now _
    | succ d ih =>
      intro i h
      refine ev_succ ?_
      simp only [laws_heldInt64S.l0, w64 (x := (i : Int) + 1) (by omega) (by omega), w64 (x := a + i + 1) (by omega) (by omega)]
      refine ev_pos (by rw [mks_length]; omega) (ev_pos (by omega) (ev_pos (by rw [rd_at (by rw [mks_length]; omega), mks_get]) ?_))
      have := ih (i + 1) (by omega)
      rw [show a + ((i + 1 : Nat) : Int) = a + i + 1 by omega] at this
      exact this
  unfold laws_heldInt64S.f
  have := go n 0 (by omega)
  simpa using this

theorem FnExactFeed : laws_FnExactFeed.Aim := by
  intro s b hs _
  have hs' : s.size ≤ 9223372036854775807 := hs
  refine Ev.rounds ?_
  unfold laws_FnExactFeed.f laws_szFeeder.f
  rw [w64 (x := 1048576 - (s.size : Int)) (by omega) (by omega)]
  by_cases h : 1048576 - (s.size : Int) < 0
  · rw [if_pos h]; exact ev_bind_some (ev_pos (by omega) (Ev.now _))
  · rw [if_neg h]
    refine ev_bind_some (ev_neg h ?_)
    simp only [laws_toFeeder.f, Option.bind_some]
    have e1 := spec_Feed_ev s b (by omega)
    have e2 := impl_Feed_ev s b
    have hv := (feedv_ok s b).2
    generalize feedv s b = v at *
    have hf : laws_eqFeeder.f v.1 v.1 = some true := by unfold laws_eqFeeder.f; rw [if_pos rfl]
    have he := laws_eqInt64S_ev v.2 (by omega)
    have mk := laws_markInt64S_ev v.2 1 (by omega) (by omega)
    have hh := laws_heldInt64S_ev v.2.length 1 (by omega) (by omega)
    have j1 : Ev (fun k => laws_FnExactFeed.j1 k (mks v.2.length 1) (1 + (v.2.length : Int)) false) true := by
      refine ev_succ ?_
      simp only [laws_FnExactFeed.j1]
      exact ev_neg (by simp) (Ev.bind hh (ev_neg (by omega) (ev_pos rfl (Ev.now _))))
    have j0 : Ev (fun k => laws_FnExactFeed.j0 k b v.2 v.2 false s v.1) true := by
      refine ev_succ ?_
      simp only [laws_FnExactFeed.j0, laws_toFeeder.f, Option.bind_some]
      exact ev_neg (by simp) (Ev.bind mk (Ev.bind hh (ev_neg (by omega) (ev_pos rfl (Ev.bind e2 (ev_bind_of hf (ev_pos rfl (Ev.bind he j1))))))))
    exact Ev.bind e1 (Ev.bind e2 (ev_bind_of hf (ev_pos rfl (Ev.bind he j0))))

end Go.Proofs.YtkljnfinjacejaaDoor.Pure
