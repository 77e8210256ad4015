/- The law FnExactShowPatch answers true at every patch. -/
import Derived.Test.YtalopdcephohgaaDoorSAx13
import Derived.Test.YtalopdcephohgaaDoorAimFnExactShowPatch
namespace Go.Proofs.YtalopdcephohgaaDoor.Pure
open Go.RowKit Go.Proofs.YtalopdcephohgaaDoor.SA Go.Proofs.YtalopdcephohgaaDoorW.PrintWords Go.Proofs.YtalopdcephohgaaDoorW.PrintLast
set_option linter.unusedVariables false
set_option linter.unusedSimpArgs false

theorem w64 {x : Int} (h0 : -9223372036854775808 ≤ x) (h1 : x ≤ 9223372036854775807) : wrap64 x = x := by unfold wrap64; omega
theorem ev_succ {α : Type} {g : Nat → Option α} {r : α} (h : Ev (fun k => g (k + 1)) r) : Ev g r := by
 obtain ⟨K, h⟩ := h
 refine ⟨K + 1, fun k hk => ?_⟩
 obtain ⟨m, rfl⟩ : ∃ m, k = m + 1 := ⟨k - 1, by omega⟩
 exact h m (by omega)
theorem ev_eq {α : Type} {g : Nat → Option α} {r s : α} (h : Ev g r) (e : r = s) : Ev g s := e ▸ h
theorem ev_pos {α : Type} {c : Prop} [Decidable c] {a b : Nat → Option α} {r : α} (hc : c) (h : Ev a r) : Ev (fun k => if c then a k else b k) r := by
 obtain ⟨K, h⟩ := h
 exact ⟨K, fun k hk => by show (if c then a k else b k) = some r; rw [if_pos hc]; exact h k hk⟩
theorem ev_neg {α : Type} {c : Prop} [Decidable c] {a b : Nat → Option α} {r : α} (hc : ¬ c) (h : Ev b r) : Ev (fun k => if c then a k else b k) r := by
 obtain ⟨K, h⟩ := h
 exact ⟨K, fun k hk => by show (if c then a k else b k) = some r; rw [if_neg hc]; exact h k hk⟩
theorem ev_bind_some {α β : Type} {a : α} {f : Nat → α → Option β} {r : β} (h : Ev (fun k => f k a) r) : Ev (fun k => (some a).bind (f k)) r := h
theorem ev_bind_of {α β : Type} {x : Option α} {a : α} {f : Nat → α → Option β} {r : β} (hx : x = some a) (h : Ev (fun k => f k a) r) : Ev (fun k => x.bind (f k)) r := by
 subst hx; exact h

theorem rd_nat (l : List Int) (i : Nat) : rd l (i : Int) = l.getD i 0 := by simp [rd]
theorem rd_at {l : List Int} {i : Nat} (h : i < l.length) : rd l (i : Int) = l[i] := by rw [rd_nat, List.getD_eq_getElem?_getD, List.getElem?_eq_getElem h]; rfl
theorem take_set_succ {α : Type} (l : List α) (i : Nat) (a : α) (h : i < l.length) : (l.set i a).take (i + 1) = l.take i ++ [a] := by
 rw [List.take_succ_eq_append_getElem (by simpa using h), List.take_set, List.set_eq_of_length_le (by rw [List.length_take]; omega)]
 simp

theorem maxLen_eq : maxLen = 9223372036854775807 := rfl

theorem rdc {l : List S45} {i : Nat} (h : i < l.length) : rd_T45 l (i : Int) = l[i] := by
 unfold rd_T45; rw [Int.toNat_natCast, List.getD_eq_getElem?_getD, List.getElem?_eq_getElem h]; rfl
theorem laws_eqCell_self (x : S45) : laws_eqCell.f x.f0 x.f1.f0 x.f1.f1 x.f1.f2 x.f1.f3 x.f1.f4 x.f2 x.f0 x.f1.f0 x.f1.f1 x.f1.f2 x.f1.f3 x.f1.f4 x.f2 = some true := by
 simp [laws_eqCell.f, laws_eqStyle.f]
theorem laws_eqCellS_ev (l : List S45) (hl : l.length < 9223372036854775807) : Ev (fun k => laws_eqCellS.f k l l) true := by
 have go : ∀ (d i : Nat), i + d = l.length → Ev (fun k => laws_eqCellS.l0 k l l (i : Int)) true := by
  intro d
  induction d with
  | zero =>
   intro i h
   refine ev_succ ?_
   simp only [laws_eqCellS.l0]
   exact ev_neg (by omega) (Ev.now _)
  | succ d ih =>
   intro i h
   refine ev_succ ?_
   simp only [laws_eqCellS.l0, w64 (x := (i : Int) + 1) (by omega) (by omega), laws_eqCell_self, Option.bind_some]
   exact ev_pos (by omega) (ev_pos (by omega) (ev_pos (by omega) (ev_pos (by first | rfl | trivial) (ih (i + 1) (by omega)))))
 unfold laws_eqCellS.f
 exact ev_pos rfl (go l.length 0 (by omega))

theorem rdch (l : List S40) (i : Nat) (h : i < l.length) : rd_T40 l (i : Int) = l[i] := by
 unfold rd_T40; rw [Int.toNat_natCast, List.getD_eq_getElem?_getD, List.getElem?_eq_getElem h]; rfl
theorem laws_eqChangeS_ev (l : List S40) (hl : l.length < 4611686018427387904) (hw : ∀ x ∈ l, x.f2.length < 4611686018427387904) : Ev (fun k => laws_eqChangeS.f k l l) true := by
 have go : ∀ (d i : Nat), i + d = l.length → Ev (fun k => laws_eqChangeS.l0 k l l (i : Int)) true := by
  intro d
  induction d with
  | zero =>
   intro i h
   refine ev_succ ?_
   simp only [laws_eqChangeS.l0]
   exact ev_neg (by omega) (Ev.now _)
  | succ d ih =>
   intro i h
   refine ev_succ ?_
   have wi : ∀ _ : Unit, wrap64 ((i : Int) + 1) = ((i + 1 : Nat) : Int) := fun _ => by rw [w64 (by omega) (by omega)]; omega
   simp only [laws_eqChangeS.l0, rdch l i (by omega), wi (), laws_eqChange.f]
   refine ev_pos (by omega) (ev_pos (by omega) (ev_pos (by omega) (Ev.bind (a := true) ?_ (ev_pos (by trivial) (ih (i + 1) (by omega))))))
   exact ev_pos (by trivial) (ev_pos (by trivial) (Ev.bind (laws_eqCellS_ev _ (by have := hw _ (List.getElem_mem (l := l) (n := i) (by omega)); omega)) (ev_pos (by trivial) (Ev.now _))))
 unfold laws_eqChangeS.f
 exact ev_pos (by trivial) (go l.length 0 (by omega))
theorem laws_eqPatch_ev (c n : Int) (l : List S40) (hl : l.length < 4611686018427387904) (hw : ∀ x ∈ l, x.f2.length < 4611686018427387904) : Ev (fun k => laws_eqPatch.f k c n l c n l) true := by
 unfold laws_eqPatch.f
 exact ev_pos (by trivial) (ev_pos (by trivial) (Ev.bind (laws_eqChangeS_ev l hl hw) (ev_pos (by trivial) (Ev.now _))))
theorem spec_l1In_eq (a b c : Int) : spec_l1In.f a b c = some (decide (b ≤ a) && decide (a ≤ c)) := by
 unfold spec_l1In.f
 by_cases h : a ≥ b
 ·rw [if_pos h]; simp [h]
 ·rw [if_neg h]; simp [show ¬ b ≤ a from h]

theorem impl_in_eq (a b c : Int) : impl_in.f a b c = some (decide (b ≤ a) && decide (a ≤ c)) := by
 unfold impl_in.f
 by_cases h : b ≤ a
 ·rw [if_pos h]; simp [h]
 ·rw [if_neg h]; simp [h]

def sokv (a b : Int) : Bool := (decide (0 ≤ a) && decide (a ≤ 8)) && (decide (0 ≤ b) && decide (b ≤ 8))
theorem impl_StyleOk_eq (a b : Int) (c d e : Bool) : impl_StyleOk.f a b c d e = some (sokv a b) := by
 simp only [impl_StyleOk.f, impl_in_eq, Option.bind_some, sokv]
 by_cases h : (decide (0 ≤ a) && decide (a ≤ 8)) = true
 ·simp [h]
 ·simp [h]

theorem spec_StyleOk_eq (a b : Int) (c d e : Bool) : spec_StyleOk.f a b c d e = some (sokv a b) := by
 simp only [spec_StyleOk.f, spec_l1In_eq, Option.bind_some, sokv]
 by_cases h : (decide (0 ≤ a) && decide (a ≤ 8)) = true
 ·simp [h]
 ·simp [h]

theorem sh_nil (s : ByteArray) : s.toList = [] ↔ s.size = 0 := by
 rw [Lib.toList_data]
 constructor
 ·intro h
  have := congrArg List.length h
  simpa using this
 ·intro h
  exact List.eq_nil_of_length_eq_zero (by simpa using h)
theorem sh_ext {a b : ByteArray} (h : a.data.toList = b.data.toList) : a = b := ByteArray.ext (Array.toList_inj.mp h)
theorem sh_append (a b : ByteArray) : (a ++ b).data.toList = a.data.toList ++ b.data.toList := by rw [ByteArray.data_append, Array.toList_append]
theorem sh_size (a : ByteArray) : a.size = a.data.toList.length := by rw [Array.length_toList]; rfl
theorem sh_bytes (s : ByteArray) : strOfNums (bytesOf s) = s := by
 refine sh_ext ?_
 rw [strOfNums_data]
 unfold bytesOf
 rw [List.map_map]
 conv => rhs; rw [← List.map_id s.data.toList]
 refine List.map_congr_left (fun b _ => ?_)
 simp
def dig (n : Int) : List UInt8 := Lib.decDigits n.toNat
theorem dec_length : ∀ (d m : Nat), m < 10 ^ (d + 1) → (Lib.decDigits m).length ≤ d + 1
 | 0, m, h => by rw [Lib.decDigits_one (by omega)]; simp
 | d + 1, m, h => by
  rw [Lib.decDigits]
  by_cases q : m < 10
  ·rw [dif_pos q]; simp
  ·rw [dif_neg q, List.length_append]
   have := dec_length d (m / 10) (by rw [Nat.div_lt_iff_lt_mul (by omega)]; rw [Nat.pow_succ] at h; omega)
   simp only [List.length_cons, List.length_nil]; omega
theorem dig_length (n : Int) (h0 : 0 ≤ n) (h1 : n ≤ 9999999) : (dig n).length ≤ 7 := dec_length 6 n.toNat (by omega)
theorem l3Int_go : ∀ (b m : Nat) (s : ByteArray), m ≤ b → m + s.size < 1000000000 → Ev (fun k => spec_l3Int.j1 k (m : Int) s false true) ⟨(Lib.decDigits m ++ s.data.toList).toArray⟩ := by
 intro b
 induction b with
 | zero =>
  intro m s hb hs
  obtain rfl : m = 0 := by omega
  have hz : ∀ _ : Unit, (strOfNums [((48 : Nat) : Int)] ++ s).size ≠ 0 := fun _ => by rw [ByteArray.size_append, strOfNums_size]; simp only [List.length_cons, List.length_nil]; omega
  have hm : ∀ _ : Unit, Int.tmod ((0 : Nat) : Int) 10 = 0 := fun _ => by decide
  have hd : ∀ _ : Unit, wrap64 (Int.tdiv ((0 : Nat) : Int) 10) = 0 := fun _ => by rw [show Int.tdiv ((0 : Nat) : Int) 10 = 0 from by decide, w64 (by omega) (by omega)]
  have hw : ∀ _ : Unit, wrap64 (48 + (0 : Int)) % 256 = ((48 : Nat) : Int) := fun _ => by rw [w64 (by omega) (by omega)]; omega
  refine ev_succ ?_
  simp only [spec_l3Int.j1, hm (), hd (), hw ()]
  refine ev_pos (by trivial) (ev_neg (by omega) (ev_bind_some (ev_pos (by rw [strOfNums_size]; simp only [List.length_cons, List.length_nil]; omega) (ev_succ ?_))))
  simp only [spec_l3Int.l0]
  refine ev_neg (fun x => hz () ((sh_nil _).mp x)) (ev_succ ?_)
  simp only [spec_l3Int.j1]
  refine ev_neg (by simp) (ev_neg (by simp) (ev_eq (Ev.now _) (sh_ext ?_)))
  rw [sh_append, strOfNums_data, Lib.decDigits_one (by omega)]
  rfl
 | succ b ih =>
  intro m s hb hs
  have hz : ∀ _ : Unit, (strOfNums [((48 + m % 10 : Nat) : Int)] ++ s).size = 1 + s.size := fun _ => by rw [ByteArray.size_append, strOfNums_size]; rfl
  have hm : ∀ _ : Unit, Int.tmod (m : Int) 10 = ((m % 10 : Nat) : Int) := fun _ => by rw [Int.tmod_eq_emod_of_nonneg (by omega)]; omega
  have hd : ∀ _ : Unit, wrap64 (Int.tdiv (m : Int) 10) = ((m / 10 : Nat) : Int) := fun _ => by rw [Int.tdiv_eq_ediv_of_nonneg (by omega), w64 (by omega) (by omega)]; omega
  have hw : ∀ _ : Unit, wrap64 (48 + ((m % 10 : Nat) : Int)) % 256 = ((48 + m % 10 : Nat) : Int) := fun _ => by rw [w64 (by omega) (by omega)]; omega
  have hdat : (strOfNums [((48 + m % 10 : Nat) : Int)] ++ s).data.toList = UInt8.ofNat (48 + m % 10) :: s.data.toList := by
   rw [sh_append, strOfNums_data]
   rfl
  refine ev_succ ?_
  simp only [spec_l3Int.j1, hm (), hd (), hw ()]
  refine ev_pos (by trivial) (ev_neg (by omega) (ev_bind_some (ev_pos (by rw [strOfNums_size]; simp only [List.length_cons, List.length_nil]; omega) (ev_succ ?_))))
  simp only [spec_l3Int.l0]
  refine ev_neg (fun x => by have := (sh_nil _).mp x; rw [hz ()] at this; omega) ?_
  by_cases q : m < 10
  ·rw [show m / 10 = 0 by omega]
   refine ev_succ ?_
   simp only [spec_l3Int.j1]
   refine ev_neg (by simp) (ev_neg (by simp) (ev_eq (Ev.now _) (sh_ext ?_)))
   rw [hdat, Lib.decDigits_one q, show m % 10 = m by omega]
   rfl
  ·have e := ih (m / 10) (strOfNums [((48 + m % 10 : Nat) : Int)] ++ s) (by omega) (by rw [hz ()]; omega)
   have hne : (((m / 10 : Nat) : Int) != 0) = true := by simp; omega
   rw [hne]
   refine ev_eq e (sh_ext ?_)
   rw [hdat]
   conv => rhs; rw [Lib.decDigits, dif_neg q]
   simp
theorem spec_l3Int_ev (n : Int) (h0 : 0 ≤ n) (h1 : n ≤ 9999999) : Ev (fun k => spec_l3Int.f k n) ⟨(dig n).toArray⟩ := by
 obtain ⟨m, rfl⟩ : ∃ m : Nat, n = (m : Int) := ⟨n.toNat, by omega⟩
 unfold spec_l3Int.f
 rw [decide_eq_false (by omega)]
 refine ev_succ ?_
 simp only [spec_l3Int.l0]
 refine ev_pos (by rw [Lib.toList_data]) ?_
 refine ev_eq (l3Int_go m m ⟨#[]⟩ (Nat.le_refl _) (by show m + 0 < _; omega)) ?_
 unfold dig
 rw [Int.toNat_natCast]
 simp
theorem impl_decimal_eq (n : Int) (h0 : 0 ≤ n) (h1 : n ≤ 9999999) : impl_decimal.f n = some ⟨(dig n).toArray⟩ := by
 unfold impl_decimal.f strconv_FormatInt_49.f
 rw [if_pos ⟨⟨by omega, by omega⟩, rfl⟩]
 unfold Lib.itoa dig
 rw [if_neg (by omega)]; rfl
def joined (l : List Int) : List UInt8 := Lib.join (l.map dig) [32]
theorem joined_one (x : Int) : joined [x] = dig x := Lib.join_one _ _
theorem joined_more (l : List Int) (x : Int) (h : l ≠ []) : joined (l ++ [x]) = joined l ++ 32 :: dig x := by
 cases l with
 | nil => exact absurd rfl h
 | cons a l =>
  unfold joined
  rw [List.cons_append, List.map_cons, List.map_cons, Lib.join_cons, Lib.join_cons, List.map_append]
  simp [Lib.joinTail]
theorem joined_length (l : List Int) (h : ∀ x ∈ l, 0 ≤ x ∧ x ≤ 9999999) : (joined l).length ≤ 8 * l.length := by
 unfold joined
 cases l with
 | nil => simp [Lib.join_nil]
 | cons a l =>
  rw [List.map_cons, Lib.join_cons, List.length_append]
  have ha := dig_length a (h a (by simp)).1 (h a (by simp)).2
  have : ∀ l : List Int, (∀ x ∈ l, 0 ≤ x ∧ x ≤ 9999999) → (Lib.joinTail [32] (l.map dig)).length ≤ 8 * l.length := by
   intro l
   induction l with
   | nil => intro _; simp [Lib.joinTail]
   | cons b l ih =>
    intro hb
    have h1 := dig_length b (hb b (by simp)).1 (hb b (by simp)).2
    have h2 := ih (fun x hx => hb x (by simp [hx]))
    simp only [Lib.joinTail, List.map_cons, List.flatten_cons, List.length_append, List.length_cons, List.length_nil] at h2 ⊢
    omega
  have := this l (fun x hx => h x (by simp [hx]))
  simp only [List.length_cons]; omega
def flagv (y : S45) : Int := (if y.f1.f2 = true then 1 else 0) + (if y.f1.f3 = true then 2 else 0) + (if y.f1.f4 = true then 4 else 0)
def celln (y : S45) : List Int := [y.f0, y.f1.f0, y.f1.f1, flagv y, y.f2]
def chn (x : S40) : List Int := [x.f0, x.f1, (x.f2.length : Int)] ++ x.f2.flatMap celln
def nums (c n : Int) (ch : List S40) : List Int := [c, n] ++ ch.flatMap chn
theorem cellns_length (l : List S45) : (l.flatMap celln).length = 5 * l.length := by
 induction l with
 | nil => rfl
 | cons x l ih => rw [List.flatMap_cons, List.length_append, ih]; simp only [celln, List.length_cons, List.length_nil]; omega
theorem chn_length (x : S40) : (chn x).length = 3 + 5 * x.f2.length := by unfold chn; rw [List.length_append, cellns_length]; simp only [List.length_cons, List.length_nil]
def OkCh (x : S40) : Prop := 1 ≤ x.f2.length ∧ x.f2.length ≤ 60 ∧ ∀ y ∈ x.f2, sokv y.f1.f0 y.f1.f1 = true
theorem chns_length (l : List S40) (h : ∀ x ∈ l, x.f2.length ≤ 60) : (l.flatMap chn).length ≤ 303 * l.length := by
 induction l with
 | nil => simp
 | cons x l ih =>
  rw [List.flatMap_cons, List.length_append, chn_length]
  have := h x (by simp)
  have := ih (fun y hy => h y (by simp [hy]))
  simp only [List.length_cons]; omega
theorem l3F (a : Bool) (x : Int) : spec_l3Flag.f a x 0 = some (if a = true then x else 0) := by
 unfold spec_l3Flag.f
 split <;> rfl
theorem spec_l10Flags_eq (a b : Int) (c d e : Bool) : spec_l10Flags.f a b c d e = some ((if c = true then 1 else 0) + (if d = true then 2 else 0) + (if e = true then 4 else 0)) := by
 unfold spec_l10Flags.f
 simp only [l3F, Option.bind_some]
 have b1 : 0 ≤ (if c = true then (1 : Int) else 0) ∧ (if c = true then (1 : Int) else 0) ≤ 1 := by split <;> omega
 have b2 : 0 ≤ (if d = true then (2 : Int) else 0) ∧ (if d = true then (2 : Int) else 0) ≤ 2 := by split <;> omega
 have b3 : 0 ≤ (if e = true then (4 : Int) else 0) ∧ (if e = true then (4 : Int) else 0) ≤ 4 := by split <;> omega
 obtain ⟨x, hx⟩ : ∃ x, x = (if c = true then (1 : Int) else 0) := ⟨_, rfl⟩
 obtain ⟨y, hy⟩ : ∃ y, y = (if d = true then (2 : Int) else 0) := ⟨_, rfl⟩
 obtain ⟨z, hz⟩ : ∃ z, z = (if e = true then (4 : Int) else 0) := ⟨_, rfl⟩
 rw [← hx, ← hy, ← hz]
 rw [← hx] at b1
 rw [← hy] at b2
 rw [← hz] at b3
 rw [w64 (x := x + y) (by omega) (by omega), w64 (by omega) (by omega)]
section
variable (c n : Int) (ch : List S40) (hch : ch.length ≤ 400)
include hch
set_option linter.unusedSectionVars false
theorem spec_l10_l1 (i : Nat) (u v : Int) (cs : List S45) (hcs : cs.length ≤ 60) (r : List Int) : ∀ (d j : Nat) (acc : List Int), j + d = cs.length → acc.length + 5 * d < 1000000 →
  Ev (fun k => spec_l10Numbers.l0 k (acc ++ (cs.drop j).flatMap celln) ((i + 1 : Nat) : Int) c n ch) r → (i : Int) < 1000000 → Ev (fun k => spec_l10Numbers.l1 k acc (i : Int) (j : Int) c n ch u v cs) r := by
 intro d
 induction d with
 | zero =>
  intro j acc hj ha he hi
  have wi : ∀ _ : Unit, wrap64 ((i : Int) + 1) = ((i + 1 : Nat) : Int) := fun _ => by rw [w64 (by omega) (by omega)]; omega
  refine ev_succ ?_
  simp only [spec_l10Numbers.l1, wi ()]
  rw [List.drop_of_length_le (by omega), List.flatMap_nil, List.append_nil] at he
  exact ev_neg (by omega) he
 | succ d ih =>
  intro j acc hj ha he hi
  have wj : ∀ _ : Unit, wrap64 ((j : Int) + 1) = ((j + 1 : Nat) : Int) := fun _ => by rw [w64 (by omega) (by omega)]; omega
  have rc : ∀ _ : Unit, rd_T45 cs (j : Int) = cs[j] := fun _ => rdc (by omega)
  rw [List.drop_eq_getElem_cons (by omega), List.flatMap_cons, ← List.append_assoc] at he
  refine ev_succ ?_
  simp only [spec_l10Numbers.l1, wj (), rc (), spec_l10Flags_eq, Option.bind_some]
  refine ev_pos (by omega) (ev_pos (by omega) (ev_pos (by simp only [List.length_cons, List.length_nil]; omega) ?_))
  exact ih (j + 1) (acc ++ celln cs[j]) (by omega) (by rw [List.length_append]; simp only [celln, List.length_cons, List.length_nil]; omega) he hi
theorem spec_l10_l0 (hw : ∀ x ∈ ch, x.f2.length ≤ 60) : ∀ (d i : Nat) (acc : List Int), i + d = ch.length → acc.length + 303 * d < 500000 →
  Ev (fun k => spec_l10Numbers.l0 k acc (i : Int) c n ch) (acc ++ (ch.drop i).flatMap chn) := by
 intro d
 induction d with
 | zero =>
  intro i acc hi ha
  refine ev_succ ?_
  simp only [spec_l10Numbers.l0]
  rw [List.drop_of_length_le (by omega), List.flatMap_nil, List.append_nil]
  exact ev_neg (by omega) (Ev.now _)
 | succ d ih =>
  intro i acc hi ha
  have hx := hw ch[i] (List.getElem_mem (by omega))
  have rc : ∀ _ : Unit, rd_T40 ch (i : Int) = ch[i] := fun _ => rdch ch i (by omega)
  rw [List.drop_eq_getElem_cons (by omega), List.flatMap_cons, ← List.append_assoc]
  refine ev_succ ?_
  simp only [spec_l10Numbers.l0, rc (), Option.bind_some]
  refine ev_pos (by omega) (ev_pos (by omega) (ev_pos (by simp only [List.length_cons, List.length_nil]; omega) ?_))
  refine spec_l10_l1 c n ch hch i _ _ ch[i].f2 hx _ ch[i].f2.length 0 _ (by omega) (by rw [List.length_append]; simp only [List.length_cons, List.length_nil]; omega) ?_ (by omega)
  have e := ih (i + 1) (acc ++ chn ch[i]) (by omega) (by rw [List.length_append, chn_length]; omega)
  rw [List.drop_zero, List.append_assoc]
  exact e
theorem spec_l10Numbers_ev (hw : ∀ x ∈ ch, x.f2.length ≤ 60) : Ev (fun k => spec_l10Numbers.f k c n ch) (nums c n ch) := by
 unfold spec_l10Numbers.f
 have := spec_l10_l0 c n ch hch hw ch.length 0 [c, n] (by omega) (by simp only [List.length_cons, List.length_nil]; omega)
 rw [List.drop_zero] at this
 exact this
theorem spec_show_l2 (l : List Int) (hl : l.length ≤ 200000) (hr : ∀ x ∈ l, 0 ≤ x ∧ x ≤ 9999999) : ∀ (d i : Nat), i + d = l.length →
  Ev (fun k => spec_ShowPatch.l2 k (bytesOf ⟨(joined (l.take i)).toArray⟩) l (i : Int)) ⟨(joined l).toArray⟩ := by
 have hsz : ∀ i, i ≤ l.length → (bytesOf ⟨(joined (l.take i)).toArray⟩).length ≤ 8 * i := by
  intro i hi
  rw [bytesOf_length, sh_size]
  have := joined_length (l.take i) (fun x hx => hr x (List.mem_of_mem_take hx))
  rw [List.length_take] at this
  simp only; omega
 intro d
 induction d with
 | zero =>
  intro i hi
  refine ev_succ ?_
  simp only [spec_ShowPatch.l2]
  refine ev_neg (by omega) (ev_eq (Ev.now _) ?_)
  rw [sh_bytes, List.take_of_length_le (by omega)]
 | succ d ih =>
  intro i hi
  have hi' : i < l.length := by omega
  have hs := hsz i (by omega)
  have hx := hr l[i] (List.getElem_mem hi')
  have hd := dig_length l[i] hx.1 hx.2
  have hds : (⟨(dig l[i]).toArray⟩ : ByteArray).size = (dig l[i]).length := by rw [sh_size]
  have ht : l.take (i + 1) = l.take i ++ [l[i]] := List.take_succ_eq_append_getElem hi'
  have hw : ∀ _ : Unit, wrap64 ((i : Int) + 1) = ((i + 1 : Nat) : Int) := fun _ => by rw [w64 (by omega) (by omega)]; omega
  have hrd : ∀ _ : Unit, rd l (i : Int) = l[i] := fun _ => rd_at hi'
  have hin : (decide (0 ≤ l[i]) && decide (l[i] ≤ 9999999)) = true := by simp; exact hx
  have e := ih (i + 1) (by omega)
  refine ev_succ ?_
  simp only [spec_ShowPatch.l2, hw (), hrd (), spec_l1In_eq, Option.bind_some]
  refine ev_pos (by omega) (ev_pos (by omega) (ev_pos hin ?_))
  by_cases hi0 : i = 0
  ·subst hi0
   refine ev_neg (by omega) (Ev.bind (spec_l3Int_ev _ hx.1 hx.2) (ev_pos (by omega) ?_))
   have : bytesOf ⟨(joined (l.take 0)).toArray⟩ ++ bytesOf ⟨(dig l[0]).toArray⟩ = bytesOf ⟨(joined (l.take (0 + 1))).toArray⟩ := by
    rw [ht, List.take_zero, List.nil_append, joined_one]
    rfl
   rw [this]; exact e
  ·refine ev_pos (by omega) (ev_pos (by omega) (Ev.bind (spec_l3Int_ev _ hx.1 hx.2) (ev_pos ?_ ?_)))
   ·rw [List.length_append, hds]; simp only [List.length_cons, List.length_nil]; omega
   ·have hne : l.take i ≠ [] := fun x => by have := congrArg List.length x; rw [List.length_take, List.length_nil] at this; omega
    have : (bytesOf ⟨(joined (l.take i)).toArray⟩ ++ [32]) ++ bytesOf ⟨(dig l[i]).toArray⟩ = bytesOf ⟨(joined (l.take (i + 1))).toArray⟩ := by
     rw [ht, joined_more _ _ hne]
     unfold bytesOf
     simp
    rw [this]; exact e
theorem spec_show_bad (l : List Int) (hl : l.length ≤ 200000) (m : Nat) (hm : m < l.length) (hb : ¬ (0 ≤ l[m] ∧ l[m] ≤ 9999999)) (hr : ∀ j (h : j < m), 0 ≤ l[j] ∧ l[j] ≤ 9999999) : ∀ (d i : Nat) (acc : List Int), i + d = m → acc.length ≤ 8 * i →
  Ev (fun k => spec_ShowPatch.l2 k acc l (i : Int)) ⟨#[]⟩ := by
 intro d
 induction d with
 | zero =>
  intro i acc hi ha
  obtain rfl : i = m := by omega
  have hrd : ∀ _ : Unit, rd l (i : Int) = l[i] := fun _ => rd_at hm
  refine ev_succ ?_
  simp only [spec_ShowPatch.l2, hrd (), spec_l1In_eq, Option.bind_some]
  exact ev_pos (by omega) (ev_pos (by omega) (ev_neg (by simp; omega) (Ev.now _)))
 | succ d ih =>
  intro i acc hi ha
  have hi' : i < l.length := by omega
  have hx := hr i (by omega)
  have hd := dig_length l[i] hx.1 hx.2
  have hds : (⟨(dig l[i]).toArray⟩ : ByteArray).size = (dig l[i]).length := by rw [sh_size]
  have hbl := bytesOf_length ⟨(dig l[i]).toArray⟩
  have hw : ∀ _ : Unit, wrap64 ((i : Int) + 1) = ((i + 1 : Nat) : Int) := fun _ => by rw [w64 (by omega) (by omega)]; omega
  have hrd : ∀ _ : Unit, rd l (i : Int) = l[i] := fun _ => rd_at hi'
  have hin : (decide (0 ≤ l[i]) && decide (l[i] ≤ 9999999)) = true := by simp; exact hx
  refine ev_succ ?_
  simp only [spec_ShowPatch.l2, hw (), hrd (), spec_l1In_eq, Option.bind_some]
  refine ev_pos (by omega) (ev_pos (by omega) (ev_pos hin ?_))
  by_cases hi0 : i = 0
  ·subst hi0
   exact ev_neg (by omega) (Ev.bind (spec_l3Int_ev _ hx.1 hx.2) (ev_pos (by omega) (ih (0 + 1) _ (by omega) (by rw [List.length_append]; omega))))
  ·refine ev_pos (by omega) (ev_pos (by omega) (Ev.bind (spec_l3Int_ev _ hx.1 hx.2) (ev_pos ?_ (ih (i + 1) _ (by omega) ?_))))
   ·rw [List.length_append, hds]; simp only [List.length_cons, List.length_nil]; omega
   ·rw [List.length_append, List.length_append]; simp only [List.length_cons, List.length_nil]; omega
theorem spec_show_l1 (i : Nat) (cs : List S45) (hcs : cs.length ≤ 60) (r : ByteArray) : ∀ (d j : Nat), j + d = cs.length → (i : Int) < 1000000 →
  ((∀ y ∈ cs.drop j, sokv y.f1.f0 y.f1.f1 = true) → Ev (fun k => spec_ShowPatch.l0 k ((i + 1 : Nat) : Int) c n ch) r) → (¬ (∀ y ∈ cs.drop j, sokv y.f1.f0 y.f1.f1 = true) → r = ⟨#[]⟩) →
  Ev (fun k => spec_ShowPatch.l1 k (i : Int) cs (j : Int) c n ch) r := by
 intro d
 induction d with
 | zero =>
  intro j hj hi h1 h2
  have wi : ∀ _ : Unit, wrap64 ((i : Int) + 1) = ((i + 1 : Nat) : Int) := fun _ => by rw [w64 (by omega) (by omega)]; omega
  refine ev_succ ?_
  simp only [spec_ShowPatch.l1, wi ()]
  exact ev_neg (by omega) (h1 (fun y hy => by rw [List.drop_of_length_le (by omega)] at hy; cases hy))
 | succ d ih =>
  intro j hj hi h1 h2
  have wj : ∀ _ : Unit, wrap64 ((j : Int) + 1) = ((j + 1 : Nat) : Int) := fun _ => by rw [w64 (by omega) (by omega)]; omega
  have rc : ∀ _ : Unit, rd_T45 cs (j : Int) = cs[j] := fun _ => rdc (by omega)
  rw [List.drop_eq_getElem_cons (by omega)] at h1 h2
  refine ev_succ ?_
  simp only [spec_ShowPatch.l1, wj (), rc (), spec_StyleOk_eq, Option.bind_some]
  refine ev_pos (by omega) (ev_pos (by omega) ?_)
  by_cases q : sokv cs[j].f1.f0 cs[j].f1.f1 = true
  ·refine ev_pos q (ih (j + 1) (by omega) hi (fun hh => h1 (fun y hy => ?_)) (fun hh => h2 (fun hk => hh (fun y hy => hk y (List.mem_cons_of_mem _ hy)))))
   rcases List.mem_cons.mp hy with rfl | hy
   ·exact q
   ·exact hh y hy
  ·rw [h2 (fun hk => q (hk _ List.mem_cons_self))]
   exact ev_neg q (Ev.now _)
theorem spec_show_l0 (r : ByteArray) : ∀ (d i : Nat), i + d = ch.length → ((∀ x ∈ ch.drop i, OkCh x) → Ev (fun k => (spec_l10Numbers.f k c n ch).bind fun t => spec_ShowPatch.l2 k [] t 0) r) → (¬ (∀ x ∈ ch.drop i, OkCh x) → r = ⟨#[]⟩) →
  Ev (fun k => spec_ShowPatch.l0 k (i : Int) c n ch) r := by
 intro d
 induction d with
 | zero =>
  intro i hi h1 h2
  refine ev_succ ?_
  simp only [spec_ShowPatch.l0]
  exact ev_neg (by omega) (h1 (fun x hx => by rw [List.drop_of_length_le (by omega)] at hx; cases hx))
 | succ d ih =>
  intro i hi h1 h2
  have rc : ∀ _ : Unit, rd_T40 ch (i : Int) = ch[i] := fun _ => rdch ch i (by omega)
  rw [List.drop_eq_getElem_cons (by omega)] at h1 h2
  have jt : ∀ u : List S45, Ev (fun k => spec_ShowPatch.j1 k (i : Int) u true c n ch) ⟨#[]⟩ := fun u => by
   refine ev_succ ?_
   simp only [spec_ShowPatch.j1]
   exact ev_pos (by trivial) (Ev.now _)
  refine ev_succ ?_
  simp only [spec_ShowPatch.l0, rc ()]
  refine ev_pos (by omega) (ev_pos (by omega) ?_)
  by_cases z1 : (ch[i].f2.length : Int) < 1
  ·rw [h2 (fun hk => by have := (hk _ List.mem_cons_self).1; omega)]
   exact ev_pos z1 (jt _)
  refine ev_neg z1 ?_
  by_cases z2 : (ch[i].f2.length : Int) > 60
  ·rw [h2 (fun hk => by have := (hk _ List.mem_cons_self).2.1; omega), decide_eq_true z2]
   exact jt _
  rw [decide_eq_false z2]
  refine ev_succ ?_
  simp only [spec_ShowPatch.j1]
  refine ev_neg (by decide) (spec_show_l1 c n ch hch i ch[i].f2 (by omega) r ch[i].f2.length 0 (by omega) (by omega) (fun hh => ?_) (fun hh => ?_))
  ·rw [List.drop_zero] at hh
   refine ih (i + 1) (by omega) (fun hk => h1 (fun x hx => ?_)) (fun hk => h2 (fun hq => hk (fun x hx => hq x (List.mem_cons_of_mem _ hx))))
   rcases List.mem_cons.mp hx with rfl | hx
   ·exact ⟨by omega, by omega, hh⟩
   ·exact hk x hx
  ·rw [List.drop_zero] at hh
   exact h2 (fun hq => hh (hq _ List.mem_cons_self).2.2)
theorem index_ev (l : List Int) (hl : l.length ≤ 200000) : ∀ (d i : Nat), i + d = l.length → ∃ b : Int, Ev (fun k => slices_IndexFunc_int64_int64_impl_Patch_numbers_lit1.l0 k l (l.length : Int) (i : Int)) b ∧ (b ≥ 0 ↔ ¬ ∀ x ∈ l.drop i, 0 ≤ x ∧ x ≤ 9999999) := by
 intro d
 induction d with
 | zero =>
  intro i hi
  refine ⟨-1, ev_succ ?_, by rw [List.drop_of_length_le (by omega)]; simp⟩
  simp only [slices_IndexFunc_int64_int64_impl_Patch_numbers_lit1.l0]
  exact ev_neg (by omega) (Ev.now _)
 | succ d ih =>
  intro i hi
  have hi' : i < l.length := by omega
  have hw : ∀ _ : Unit, wrap64 ((i : Int) + 1) = ((i + 1 : Nat) : Int) := fun _ => by rw [w64 (by omega) (by omega)]; omega
  have hrd : ∀ _ : Unit, rd l (i : Int) = l[i] := fun _ => rd_at hi'
  by_cases q : 0 ≤ l[i] ∧ l[i] ≤ 9999999
  ·obtain ⟨b, e, hb⟩ := ih (i + 1) (by omega)
   refine ⟨b, ev_succ ?_, ?_⟩
   ·simp only [slices_IndexFunc_int64_int64_impl_Patch_numbers_lit1.l0, impl_Patch_numbers_1.f, hw (), hrd (), impl_in_eq, Option.bind_some]
    exact ev_pos (by omega) (ev_pos (by omega) (ev_pos (by omega) (ev_neg (by simp; exact q) e)))
   ·rw [hb, List.drop_eq_getElem_cons hi']
    constructor
    ·intro h1 h2; exact h1 (fun x hx => h2 x (List.mem_cons_of_mem _ hx))
    ·intro h1 h2
     refine h1 (fun x hx => ?_)
     rcases List.mem_cons.mp hx with rfl | hx
     ·exact q
     ·exact h2 x hx
  ·refine ⟨(i : Int), ev_succ ?_, ?_⟩
   ·simp only [slices_IndexFunc_int64_int64_impl_Patch_numbers_lit1.l0, impl_Patch_numbers_1.f, hw (), hrd (), impl_in_eq, Option.bind_some]
    exact ev_pos (by omega) (ev_pos (by omega) (ev_pos (by omega) (ev_pos (by simp; omega) (Ev.now _))))
   ·rw [List.drop_eq_getElem_cons hi']
    exact ⟨fun _ h => q (h _ List.mem_cons_self), fun _ => by omega⟩
theorem contains_ev (l : List Int) (hl : l.length ≤ 200000) : ∃ b, Ev (fun k => slices_ContainsFunc_int64_int64_impl_Patch_numbers_lit1.f k l) b ∧ (b = false ↔ ∀ x ∈ l, 0 ≤ x ∧ x ≤ 9999999) := by
 obtain ⟨b, e, hb⟩ := index_ev ch hch l hl l.length 0 (by omega)
 refine ⟨decide (b ≥ 0), ?_, ?_⟩
 ·unfold slices_ContainsFunc_int64_int64_impl_Patch_numbers_lit1.f slices_IndexFunc_int64_int64_impl_Patch_numbers_lit1.f
  exact Ev.bind e (Ev.now _)
 ·rw [List.drop_zero] at hb
  rw [decide_eq_false_iff_not, hb, Classical.not_not]
theorem impl_nums_l1 (i : Nat) (cs : List S45) (hcs : cs.length ≤ 60) (r : List Int × Bool) : ∀ (d j : Nat) (acc : List Int), j + d = cs.length → acc.length + 5 * d < 1000000 → (i : Int) < 1000000 →
  ((∀ y ∈ cs.drop j, sokv y.f1.f0 y.f1.f1 = true) → Ev (fun k => impl_Patch_numbers.l0 k (acc ++ (cs.drop j).flatMap celln) ch (ch.length : Int) ((i + 1 : Nat) : Int)) r) → (¬ (∀ y ∈ cs.drop j, sokv y.f1.f0 y.f1.f1 = true) → r = ([], false)) →
  Ev (fun k => impl_Patch_numbers.l1 k acc ch (ch.length : Int) (i : Int) cs (cs.length : Int) (j : Int)) r := by
 intro d
 induction d with
 | zero =>
  intro j acc hj ha hi h1 h2
  have wi : ∀ _ : Unit, wrap64 ((i : Int) + 1) = ((i + 1 : Nat) : Int) := fun _ => by rw [w64 (by omega) (by omega)]; omega
  refine ev_succ ?_
  simp only [impl_Patch_numbers.l1, wi ()]
  have hd : cs.drop j = [] := List.drop_of_length_le (by omega)
  rw [hd] at h1
  have := h1 (fun y hy => by cases hy)
  rw [List.flatMap_nil, List.append_nil] at this
  exact ev_neg (by omega) this
 | succ d ih =>
  intro j acc hj ha hi h1 h2
  have wj : ∀ _ : Unit, wrap64 ((j : Int) + 1) = ((j + 1 : Nat) : Int) := fun _ => by rw [w64 (by omega) (by omega)]; omega
  have rc : ∀ _ : Unit, rd_T45 cs (j : Int) = cs[j] := fun _ => rdc (by omega)
  rw [List.drop_eq_getElem_cons (by omega)] at h1 h2
  rw [List.flatMap_cons, ← List.append_assoc] at h1
  refine ev_succ ?_
  simp only [impl_Patch_numbers.l1, wj (), rc (), impl_StyleOk_eq, impl_Style_flags.f, Option.bind_some]
  refine ev_pos (by omega) (ev_pos (by omega) (ev_pos (by omega) ?_))
  by_cases q : sokv cs[j].f1.f0 cs[j].f1.f1 = true
  ·refine ev_pos q (ev_pos (by simp only [List.length_cons, List.length_nil]; omega) ?_)
   refine ih (j + 1) (acc ++ celln cs[j]) (by omega) (by rw [List.length_append]; simp only [celln, List.length_cons, List.length_nil]; omega) hi (fun hh => h1 (fun y hy => ?_)) (fun hh => h2 (fun hk => hh (fun y hy => hk y (List.mem_cons_of_mem _ hy))))
   rcases List.mem_cons.mp hy with rfl | hy
   ·exact q
   ·exact hh y hy
  ·rw [h2 (fun hk => q (hk _ List.mem_cons_self))]
   exact ev_neg q (Ev.now _)
theorem impl_nums_l0 (r : List Int × Bool) : ∀ (d i : Nat) (acc : List Int), i + d = ch.length → acc.length + 303 * d < 500000 →
  ((∀ x ∈ ch.drop i, OkCh x) → Ev (fun k => (slices_ContainsFunc_int64_int64_impl_Patch_numbers_lit1.f k (acc ++ (ch.drop i).flatMap chn)).bind fun t => some (acc ++ (ch.drop i).flatMap chn, !t)) r) → (¬ (∀ x ∈ ch.drop i, OkCh x) → r = ([], false)) →
  Ev (fun k => impl_Patch_numbers.l0 k acc ch (ch.length : Int) (i : Int)) r := by
 intro d
 induction d with
 | zero =>
  intro i acc hi ha h1 h2
  have hd : ch.drop i = [] := List.drop_of_length_le (by omega)
  rw [hd] at h1
  have := h1 (fun y hy => by cases hy)
  rw [List.flatMap_nil, List.append_nil] at this
  refine ev_succ ?_
  simp only [impl_Patch_numbers.l0]
  exact ev_neg (by omega) this
 | succ d ih =>
  intro i acc hi ha h1 h2
  have rc : ∀ _ : Unit, rd_T40 ch (i : Int) = ch[i] := fun _ => rdch ch i (by omega)
  rw [List.drop_eq_getElem_cons (by omega)] at h1 h2
  rw [List.flatMap_cons, ← List.append_assoc] at h1
  refine ev_succ ?_
  simp only [impl_Patch_numbers.l0, rc (), impl_in_eq, Option.bind_some]
  refine ev_pos (by omega) (ev_pos (by omega) (ev_pos (by omega) ?_))
  by_cases z : (decide (1 ≤ (ch[i].f2.length : Int)) && decide ((ch[i].f2.length : Int) ≤ 60)) = true
  ·refine ev_pos z (ev_pos (by simp only [List.length_cons, List.length_nil]; omega) ?_)
   simp only [Bool.and_eq_true, decide_eq_true_eq] at z
   refine impl_nums_l1 ch hch i ch[i].f2 (by omega) r ch[i].f2.length 0 _ (by omega) (by rw [List.length_append]; simp only [List.length_cons, List.length_nil]; omega) (by omega) (fun hh => ?_) (fun hh => ?_)
   ·rw [List.drop_zero] at hh ⊢
    rw [List.append_assoc]
    refine ih (i + 1) (acc ++ chn ch[i]) (by omega) (by rw [List.length_append, chn_length]; omega) (fun hk => h1 (fun x hx => ?_)) (fun hk => h2 (fun hq => hk (fun x hx => hq x (List.mem_cons_of_mem _ hx))))
    rcases List.mem_cons.mp hx with rfl | hx
    ·exact ⟨by omega, by omega, hh⟩
    ·exact hk x hx
   ·rw [List.drop_zero] at hh
    exact h2 (fun hq => hh (hq _ List.mem_cons_self).2.2)
  ·rw [h2 (fun hk => z (by have := hk _ List.mem_cons_self; simp only [Bool.and_eq_true, decide_eq_true_eq]; exact ⟨by have := this.1; omega, by have := this.2.1; omega⟩))]
   exact ev_neg z (Ev.now _)
theorem impl_spaced_loop (l : List Int) (hl : l.length ≤ 200000) (hr : ∀ x ∈ l, 0 ≤ x ∧ x ≤ 9999999) : ∀ (d i : Nat), i + d = l.length →
  Ev (fun k => impl_spaced.l0 k ((l.take i).map fun x => (⟨(dig x).toArray⟩ : ByteArray)) l (l.length : Int) (i : Int)) ⟨(joined l).toArray⟩ := by
 intro d
 induction d with
 | zero =>
  intro i hi
  have hj := joined_length l hr
  have hm : ((l.map fun x => (⟨(dig x).toArray⟩ : ByteArray)).map fun x => x.data.toList) = l.map dig := by rw [List.map_map]; rfl
  have hmm : Lib.join ((l.map fun x => (⟨(dig x).toArray⟩ : ByteArray)).map fun x => x.data.toList) (⟨#[32]⟩ : ByteArray).data.toList = joined l := by rw [hm]; rfl
  refine ev_succ ?_
  simp only [impl_spaced.l0]
  rw [List.take_of_length_le (by omega)]
  refine ev_neg (by omega) (ev_bind_of (a := ⟨(joined l).toArray⟩) ?_ (Ev.now _))
  unfold strings_Join.f
  rw [hmm, if_pos ⟨by rw [List.length_map]; omega, by omega⟩]
 | succ d ih =>
  intro i hi
  have hi' : i < l.length := by omega
  have hx := hr l[i] (List.getElem_mem hi')
  have ht : l.take (i + 1) = l.take i ++ [l[i]] := List.take_succ_eq_append_getElem hi'
  have hw : ∀ _ : Unit, wrap64 ((i : Int) + 1) = ((i + 1 : Nat) : Int) := fun _ => by rw [w64 (by omega) (by omega)]; omega
  have hrd : ∀ _ : Unit, rd l (i : Int) = l[i] := fun _ => rd_at hi'
  have e := ih (i + 1) (by omega)
  rw [ht, List.map_append] at e
  refine ev_succ ?_
  simp only [impl_spaced.l0, hw (), hrd ()]
  exact ev_pos (by omega) (ev_pos (by omega) (ev_pos (by omega) (ev_bind_of (impl_decimal_eq _ hx.1 hx.2) (ev_pos (by rw [List.length_map, List.length_take]; omega) e))))
end
theorem first_bad (l : List Int) (h : ¬ ∀ x ∈ l, 0 ≤ x ∧ x ≤ 9999999) : ∃ m, ∃ hm : m < l.length, ¬ (0 ≤ l[m] ∧ l[m] ≤ 9999999) ∧ ∀ j (hj : j < m), 0 ≤ l[j]'(by omega) ∧ l[j]'(by omega) ≤ 9999999 := by
 induction l with
 | nil => exact absurd (fun x hx => by cases hx) h
 | cons a l ih =>
  by_cases q : 0 ≤ a ∧ a ≤ 9999999
  ·obtain ⟨m, hm, hb, hr⟩ := ih (fun hh => h (fun x hx => by
    rcases List.mem_cons.mp hx with rfl | hx
    ·exact q
    ·exact hh x hx))
   refine ⟨m + 1, by simp; omega, by simpa using hb, fun j hj => ?_⟩
   cases j with
   | zero => simpa using q
   | succ j => simpa using hr j (by omega)
  ·exact ⟨0, by simp, by simpa using q, fun j hj => absurd hj (by omega)⟩
theorem ShowPatch_both (c n : Int) (ch : List S40) : ∃ v, Ev (fun k => spec_ShowPatch.f k c n ch) v ∧ Ev (fun k => impl_ShowPatch.f k c n ch) v := by
 unfold spec_ShowPatch.f impl_ShowPatch.f
 by_cases h4 : (ch.length : Int) > 400
 ·exact ⟨⟨#[]⟩, ev_pos h4 (Ev.now _), ev_pos h4 (Ev.now _)⟩
 have hch : ch.length ≤ 400 := by omega
 by_cases hok : ∀ x ∈ ch, OkCh x
 ·have hw : ∀ x ∈ ch, x.f2.length ≤ 60 := fun x hx => (hok x hx).2.1
  have hnl : (nums c n ch).length ≤ 200000 := by
   unfold nums
   rw [List.length_append]
   have := chns_length ch hw
   simp only [List.length_cons, List.length_nil]; omega
  obtain ⟨b, eb, hb⟩ := contains_ev ch hch (nums c n ch) hnl
  have en := spec_l10Numbers_ev c n ch hch hw
  have ei : ∀ r, r = (nums c n ch, !b) → Ev (fun k => impl_Patch_numbers.f k c n ch) r := fun r hr => by
   unfold impl_Patch_numbers.f
   refine impl_nums_l0 ch hch r ch.length 0 [c, n] (by omega) (by simp only [List.length_cons, List.length_nil]; omega) (fun _ => ?_) (fun hh => absurd (by rw [List.drop_zero]; exact hok) hh)
   rw [List.drop_zero, hr]
   exact Ev.bind eb (Ev.now _)
  by_cases hr : ∀ x ∈ nums c n ch, 0 ≤ x ∧ x ≤ 9999999
  ·refine ⟨⟨(joined (nums c n ch)).toArray⟩, ev_neg h4 ?_, ev_neg h4 ?_⟩
   ·refine spec_show_l0 c n ch hch _ ch.length 0 (by omega) (fun _ => Ev.bind en ?_) (fun hh => absurd (by rw [List.drop_zero]; exact hok) hh)
    exact spec_show_l2 ch hch (nums c n ch) hnl hr (nums c n ch).length 0 (by omega)
   ·refine Ev.bind (ei _ rfl) (ev_pos (by rw [hb.mpr hr]; rfl) (Ev.bind ?_ (Ev.now _)))
    unfold impl_spaced.f
    exact impl_spaced_loop ch hch (nums c n ch) hnl hr (nums c n ch).length 0 (by omega)
  ·obtain ⟨m, hm, hbm, hrm⟩ := first_bad _ hr
   have hbt : b = true := by
    cases b with
    | true => rfl
    | false => exact absurd (hb.mp rfl) hr
   refine ⟨⟨#[]⟩, ev_neg h4 ?_, ev_neg h4 ?_⟩
   ·refine spec_show_l0 c n ch hch _ ch.length 0 (by omega) (fun _ => Ev.bind en ?_) (fun hh => absurd (by rw [List.drop_zero]; exact hok) hh)
    exact spec_show_bad ch hch (nums c n ch) hnl m hm hbm hrm m 0 [] (by omega) (by simp)
   ·exact Ev.bind (ei _ rfl) (ev_neg (by rw [hbt]; simp) (Ev.now _))
 ·refine ⟨⟨#[]⟩, ev_neg h4 ?_, ev_neg h4 ?_⟩
  ·exact spec_show_l0 c n ch hch _ ch.length 0 (by omega) (fun hh => absurd (by rw [List.drop_zero] at hh; exact hh) hok) (fun _ => rfl)
  ·refine Ev.bind (a := ([], false)) ?_ (ev_neg (by decide) (Ev.now _))
   unfold impl_Patch_numbers.f
   exact impl_nums_l0 ch hch _ ch.length 0 [c, n] (by omega) (by simp only [List.length_cons, List.length_nil]; omega) (fun hh => absurd (by rw [List.drop_zero] at hh; exact hh) hok) (fun _ => rfl)

theorem rdlc {l : List S103} {i : Nat} (h : i < l.length) : rd_T103 l (i : Int) = l[i] := by
 unfold rd_T103; rw [Int.toNat_natCast, List.getD_eq_getElem?_getD, List.getElem?_eq_getElem h]; rfl
def tocell (x : S103) : S45 := ⟨x.f0, ⟨x.f1.f0, x.f1.f1, x.f1.f2, x.f1.f3, x.f1.f4⟩, x.f2⟩
theorem laws_toCellS_ev (l : List S103) (hl : l.length ≤ 1048576) : Ev (fun k => laws_toCellS.f k l) (l.map tocell) := by
 have go : ∀ (d i : Nat) (m : List S45), i + d = l.length → m.length = l.length → Ev (fun k => laws_toCellS.l0 k l m (i : Int)) (m.take i ++ (l.drop i).map tocell) := by
  intro d
  induction d with
  | zero =>
   intro i m h hm
   refine ev_succ ?_
   simp only [laws_toCellS.l0]
   refine ev_neg (by omega) ?_
   rw [List.take_of_length_le (by omega), List.drop_of_length_le (by omega), List.map_nil, List.append_nil]
   exact Ev.now _
  | succ d ih =>
   intro i m h hm
   refine ev_succ ?_
   simp only [laws_toCellS.l0, laws_toCell.f, laws_toStyle.f, Option.bind_some, w64 (x := (i : Int) + 1) (by omega) (by omega)]
   refine ev_pos (by omega) (ev_pos (by omega) (ev_pos (by omega) ?_))
   have := ih (i + 1) (m.set (i : Int).toNat (tocell (rd_T103 l (i : Int)))) (by omega) (by simpa using hm)
   refine ev_eq this ?_
   rw [show (i : Int).toNat = i by omega, take_set_succ _ _ _ (by omega), rdlc (by omega), List.append_assoc, List.singleton_append, ← List.map_cons, ← List.drop_eq_getElem_cons (by omega)]
 unfold laws_toCellS.f
 refine ev_pos (by omega) (ev_pos (by omega) ?_)
 have := go l.length 0 (List.replicate l.length z45) (by omega) (by simp)
 simpa using this
theorem laws_szCellS_left (l : List S103) (a : Int) (h0 : 0 ≤ a) (ha : a ≤ 1048576) (hl : l.length ≤ maxLen) : ∃ r, laws_szCellS.f l a = some r ∧ (r < 0 ∨ (0 ≤ r ∧ r ≤ a ∧ (l.length : Int) ≤ a)) := by
 rw [maxLen_eq] at hl
 unfold laws_szCellS.f
 rw [w64 (x := a - (l.length : Int)) (by omega) (by omega)]
 by_cases h1 : a - (l.length : Int) < 0
 ·rw [if_pos h1]; exact ⟨_, rfl, .inl (by omega)⟩
 ·rw [if_neg h1]; exact ⟨_, rfl, .inr (by omega)⟩
theorem rdlch (l : List S68) (i : Nat) (h : i < l.length) : rd_T68 l (i : Int) = l[i] := by
 unfold rd_T68; rw [Int.toNat_natCast, List.getD_eq_getElem?_getD, List.getElem?_eq_getElem h]; rfl
theorem laws_szChangeS_ev (l : List S68) (a : Int) (h0 : 0 ≤ a) (ha : a ≤ 1048576) (hl : l.length ≤ maxLen) (hw : ∀ x ∈ l, x.f2.length ≤ maxLen) :
  ∃ r, Ev (fun k => laws_szChangeS.f k l a) r ∧ (r < 0 ∨ (0 ≤ r ∧ r ≤ a ∧ (l.length : Int) ≤ a ∧ ∀ x ∈ l, (x.f2.length : Int) ≤ a)) := by
 rw [maxLen_eq] at hl
 have go : ∀ (d i : Nat) (x : Int), i + d = l.length → 0 ≤ x → x ≤ a → ∃ r, Ev (fun k => laws_szChangeS.l0 k l x (i : Int)) r ∧ (r < 0 ∨ (0 ≤ r ∧ r ≤ x ∧ ∀ j (h : j < l.length), i ≤ j → (l[j].f2.length : Int) ≤ a)) := by
  intro d
  induction d with
  | zero =>
   intro i x h hx0 hx1
   refine ⟨x, ev_succ ?_, .inr ⟨hx0, Int.le_refl _, fun j hj hi => absurd hj (by omega)⟩⟩
   simp only [laws_szChangeS.l0]
   exact ev_neg (by omega) (Ev.now _)
  | succ d ih =>
   intro i x h hx0 hx1
   obtain ⟨r1, e1, hr1⟩ := laws_szCellS_left l[i].f2 x hx0 (by omega) (hw _ (List.getElem_mem _))
   have w2 : ∀ _ : Unit, wrap64 ((i : Int) + 1) = ((i + 1 : Nat) : Int) := fun _ => by rw [w64 (by omega) (by omega)]; omega
   by_cases c : r1 < 0
   ·refine ⟨-1, ev_succ ?_, .inl (by omega)⟩
    simp only [laws_szChangeS.l0, laws_szChange.f, rdlch l i (by omega), e1, Option.bind_some, if_pos c]
    exact ev_pos (by omega) (ev_pos (by omega) (ev_pos (by decide) (Ev.now _)))
   ·obtain ⟨r, e, hr⟩ := ih (i + 1) r1 (by omega) (by omega) (by omega)
    refine ⟨r, ev_succ ?_, ?_⟩
    ·simp only [laws_szChangeS.l0, laws_szChange.f, rdlch l i (by omega), e1, Option.bind_some, if_neg c, w2 ()]
     exact ev_pos (by omega) (ev_pos (by omega) e)
    ·rcases hr with hr | ⟨q0, q1, q2⟩
     ·exact .inl hr
     ·refine .inr ⟨q0, by omega, fun j hj hi => ?_⟩
      by_cases e : j = i
      ·subst e; omega
      ·exact q2 j hj (by omega)
 unfold laws_szChangeS.f
 rw [w64 (by omega) (by omega)]
 by_cases c : a - (l.length : Int) < 0
 ·exact ⟨-1, ev_pos c (Ev.now _), .inl (by omega)⟩
 ·obtain ⟨r, e, hr⟩ := go l.length 0 (a - (l.length : Int)) (by omega) (by omega) (by omega)
  refine ⟨r, ev_neg c e, ?_⟩
  rcases hr with hr | ⟨q0, q1, q2⟩
  ·exact .inl hr
  ·refine .inr ⟨q0, by omega, by omega, fun x hx => ?_⟩
   obtain ⟨j, hj, rfl⟩ := List.mem_iff_getElem.mp hx
   exact q2 j hj (by omega)
theorem laws_szPatch_ev (c n : Int) (l : List S68) (a : Int) (h0 : 0 ≤ a) (ha : a ≤ 1048576) (hl : l.length ≤ maxLen) (hw : ∀ x ∈ l, x.f2.length ≤ maxLen) :
  ∃ r, Ev (fun k => laws_szPatch.f k c n l a) r ∧ (r < 0 ∨ (0 ≤ r ∧ r ≤ a ∧ (l.length : Int) ≤ a ∧ ∀ x ∈ l, (x.f2.length : Int) ≤ a)) := by
 obtain ⟨r, e, hr⟩ := laws_szChangeS_ev l a h0 ha hl hw
 unfold laws_szPatch.f
 by_cases q : r < 0
 ·exact ⟨-1, Ev.bind e (ev_pos q (Ev.now _)), .inl (by omega)⟩
 ·exact ⟨r, Ev.bind e (ev_neg q (Ev.now _)), hr⟩
def toch (x : S68) : S40 := ⟨x.f0, x.f1, x.f2.map tocell⟩
theorem laws_toPatch_ev (c n : Int) (l : List S68) (hl : l.length ≤ 1048576) (hw : ∀ x ∈ l, x.f2.length ≤ 1048576) : Ev (fun k => laws_toPatch.f k c n l) (c, n, l.map toch) := by
 have go : ∀ (d i : Nat) (m : List S40), i + d = l.length → m.length = l.length → Ev (fun k => laws_toChangeS.l0 k l m (i : Int)) (m.take i ++ (l.drop i).map toch) := by
  intro d
  induction d with
  | zero =>
   intro i m h hm
   refine ev_succ ?_
   simp only [laws_toChangeS.l0]
   refine ev_neg (by omega) ?_
   rw [List.take_of_length_le (by omega), List.drop_of_length_le (by omega), List.map_nil, List.append_nil]
   exact Ev.now _
  | succ d ih =>
   intro i m h hm
   refine ev_succ ?_
   simp only [laws_toChangeS.l0, laws_toChange.f, rdlch l i (by omega), w64 (x := (i : Int) + 1) (by omega) (by omega)]
   refine ev_pos (by omega) (ev_pos (by omega) (Ev.bind (Ev.bind (laws_toCellS_ev _ (hw _ (List.getElem_mem _))) (Ev.now _)) (ev_pos (by omega) ?_)))
   have := ih (i + 1) (m.set (i : Int).toNat (toch l[i])) (by omega) (by simpa using hm)
   refine ev_eq this ?_
   rw [show (i : Int).toNat = i by omega, take_set_succ _ _ _ (by omega), List.append_assoc, List.singleton_append, ← List.map_cons, ← List.drop_eq_getElem_cons (by omega)]
 unfold laws_toPatch.f
 refine Ev.bind ?_ (Ev.now _)
 unfold laws_toChangeS.f
 refine ev_pos (by omega) (ev_pos (by omega) ?_)
 have := go l.length 0 (List.replicate l.length z40) (by omega) (by simp)
 simpa using this

theorem FnExactShowPatch : laws_FnExactShowPatch.Aim := by
 intro a b ch _ _ hch
 refine Ev.rounds ?_
 unfold laws_FnExactShowPatch.f
 obtain ⟨r, er, hr⟩ := laws_szPatch_ev a b ch 1048576 (by omega) (by omega) hch.1 (fun x hx => (hch.2 x hx).2.2.1)
 refine Ev.bind er ?_
 by_cases h : r < 0
 ·exact ev_pos h (Ev.now _)
 refine ev_neg h ?_
 have h2 : ch.length ≤ 1048576 ∧ ∀ x ∈ ch, x.f2.length ≤ 1048576 := by
  rcases hr with hr | ⟨_, q1, q2, q3⟩
  ·exact absurd hr h
  ·exact ⟨by omega, fun x hx => by have := q3 x hx; omega⟩
 have tp := laws_toPatch_ev a b ch h2.1 h2.2
 have kp : ∀ x ∈ ch.map toch, x.f2.length ≤ 1048576 := by
  intro x hx
  obtain ⟨y, hy, rfl⟩ := List.mem_map.mp hx
  show (y.f2.map tocell).length ≤ _
  rw [List.length_map]; exact h2.2 y hy
 have lP : (ch.map toch).length ≤ 1048576 := by rw [List.length_map]; exact h2.1
 have eqp := laws_eqPatch_ev a b (ch.map toch) (by omega) (fun x hx => by have := kp x hx; omega)
 obtain ⟨v, e1, e2⟩ := ShowPatch_both a b (ch.map toch)
 exact Ev.bind tp (Ev.bind e1 (Ev.bind tp (Ev.bind e2 (ev_pos rfl (Ev.bind tp (Ev.bind eqp (ev_pos rfl (Ev.now _))))))))

end Go.Proofs.YtalopdcephohgaaDoor.Pure
