/- Contracts of Go functions that laws of this seat reach: each Lean function answers as its Go function does. No condition. Written by wip/tools/inj.py, over the kit's print. -/
import Derived.Test.YtalopdcephohgaaDoorSBx0
import Derived.Test.YtalopdcephohgaaDoorSBx14
namespace Go.Proofs.YtalopdcephohgaaDoor.SB
open Go.RowKit Go.Proofs.YtalopdcephohgaaDoorW.PrintWords Go.Proofs.YtalopdcephohgaaDoorW.PrintLast Go.Proofs.YtalopdcephohgaaDoorW.PrintMore
attribute [local go_sem] max2_int min2_int max_two min_two max_three min_three max_four min_four   -- for this text's walks alone
set_option linter.unusedVariables false
set_option linter.unusedSimpArgs false

-- NOT PRINTED: function 84 (strconv_ParseUint)

-- NOT PRINTED: function 68 (strconv_ParseInt_68)

-- NOT PRINTED: function 99 (stringslite_Clone)

-- NOT PRINTED: function 85 (strconv_syntaxError)

-- NOT PRINTED: function 86 (strconv_rangeError)

-- NOT PRINTED: function 100 (errors_New)

-- NOT PRINTED: function 104 (strconv_Itoa_104)

-- NOT PRINTED: function 101 (strconv_Itoa_101)

-- NOT PRINTED: function 87 (strconv_baseError)

-- NOT PRINTED: function 88 (strconv_bitSizeError)

-- NOT PRINTED: function 69 (strconv_toError)

-- NOT PRINTED: function 57 (strconv_ParseInt_57)

/-! ### impl_numberOf: function 42 -/
def impl_numberOf.f (a0 : ByteArray) : Option (Int × Bool) := if a0.size ≤ 281474976710656 then (match Lib.parseIntB 64 a0.data.toList with | .ok v => (impl_decimal.f v).bind fun t1 => if t1.toList = a0.toList then (if (Lib.trimPrefix a0.data.toList [45]).length ≤ 9 then some (v, true) else some (v, false)) else some (v, false) | .range => some (Lib.intSat 64 a0.data.toList, false) | _ => some (0, false)) else none
set_option maxHeartbeats 4000000 in
set_option maxRecDepth 100000 in
theorem impl_numberOf.calls (a0 : ByteArray) (r1 : Int) (r2 : Bool) (w : World) (h : impl_numberOf.f a0 = some (r1, r2)) (hT : TB w) :
  Calls Tryd.prog 42 #[.string a0] w fun e w' => e = .returned (.tuple #[.int .i64 r1, .bool r2]) ∧ Below w.heap.size w w' := by
 unfold impl_numberOf.f at h
 by_cases c : a0.size ≤ 281474976710656
 ·rw [if_pos c] at h
  cases hp : Lib.parseIntB 64 a0.data.toList
  ·rename_i v
   rw [hp] at h
   replace h : ((impl_decimal.f v).bind fun t1 => if t1.toList = a0.toList then (if (Lib.trimPrefix a0.data.toList [45]).length ≤ 9 then some (v, true) else some (v, false)) else some (v, false)) = some (r1, r2) := h
   obtain ⟨t1, A1, h⟩ := Option.bind_eq_some_iff.mp h
   by_cases c1 : t1.toList = a0.toList
   ·rw [if_pos c1] at h
    have c1b : (t1.toList == a0.toList) = true := beq_iff_eq.mpr c1
    have hd : some (v, decide (((Lib.trimPrefix a0.data.toList [45]).length : Int) ≤ 9)) = some (r1, r2) := by
     rw [← h]
     by_cases c2 : (Lib.trimPrefix a0.data.toList [45]).length ≤ 9
     ·rw [if_pos c2, decide_eq_true (by omega)]
     ·rw [if_neg c2, decide_eq_false (by omega)]
    simp only [Option.some.injEq, Prod.mk.injEq] at hd
    obtain ⟨rfl, rfl⟩ := hd
    clear h c1
    go_enter Tryd.func42, Tryd.ntmps42
    go_wp2_with (first
     | (go_at_call 57; refine (Tryd.strconv_ParseInt_10_at64_ok a0 (by omega) v hp _).mono ?_; rintro e w1 ⟨rfl, hw⟩; have hb1 : Below w.heap.size w w1 := (by rcases hw with rfl | ⟨t, rfl⟩; exact Below.refl _ _; exact Lib.bytesWorld_below _ _ _); clear hw)
     | (go_at_call 37; refine (impl_decimal.calls v t1 _ A1 (TB.below hT hb1)).mono ?_; rintro e w2 ⟨rfl, hb⟩; have hb2 := below_step hb1 hb; clear hb)
     | (go_at_call 58; refine (Tryd.strings_TrimPrefix a0 ⟨#[45]⟩ _).mono ?_; rintro e w3 ⟨rfl, rfl⟩))
    go_ret2
    exact ⟨rfl, hb2⟩
   ·rw [if_neg c1] at h
    have c1b : (t1.toList == a0.toList) = false := beq_eq_false_iff_ne.mpr c1
    simp only [Option.some.injEq, Prod.mk.injEq] at h
    obtain ⟨rfl, rfl⟩ := h
    clear c1
    go_enter Tryd.func42, Tryd.ntmps42
    go_wp2_with (first
     | (go_at_call 57; refine (Tryd.strconv_ParseInt_10_at64_ok a0 (by omega) v hp _).mono ?_; rintro e w1 ⟨rfl, hw⟩; have hb1 : Below w.heap.size w w1 := (by rcases hw with rfl | ⟨t, rfl⟩; exact Below.refl _ _; exact Lib.bytesWorld_below _ _ _); clear hw)
     | (go_at_call 37; refine (impl_decimal.calls v t1 _ A1 (TB.below hT hb1)).mono ?_; rintro e w2 ⟨rfl, hb⟩; have hb2 := below_step hb1 hb; clear hb))
    go_ret2
    exact ⟨rfl, hb2⟩
  ·rw [hp] at h
   replace h : some ((0 : Int), false) = some (r1, r2) := h
   simp only [Option.some.injEq, Prod.mk.injEq] at h
   obtain ⟨rfl, rfl⟩ := h
   obtain ⟨t, p, hv⟩ := hT.2.2.1
   go_enter Tryd.func42, Tryd.ntmps42
   go_wp2_with (go_at_call 57; refine (Tryd.strconv_ParseInt_10_at64_syntax a0 c (fun v_ e_ => by rw [hp] at e_; cases e_) (fun e_ => by rw [hp] at e_; cases e_) (.iface t p) _ ?_ (.inr ⟨_, _, rfl⟩)).mono ?_)
   ·exact hv
   rintro e W1 ⟨N, rfl, -, -, hb⟩
   go_wp2
   go_ret2
   exact ⟨rfl, hb⟩
  ·rw [hp] at h
   replace h : some (Lib.intSat 64 a0.data.toList, false) = some (r1, r2) := h
   simp only [Option.some.injEq, Prod.mk.injEq] at h
   obtain ⟨rfl, rfl⟩ := h
   obtain ⟨t, p, hv⟩ := hT.2.2.2
   go_enter Tryd.func42, Tryd.ntmps42
   go_wp2_with (go_at_call 57; refine (Tryd.strconv_ParseInt_10_at64_range a0 c hp (.iface t p) _ ?_ (.inr ⟨_, _, rfl⟩)).mono ?_)
   ·exact hv
   rintro e W1 ⟨N, rfl, -, -, hb⟩
   go_wp2
   go_ret2
   exact ⟨rfl, hb⟩
 ·rw [if_neg c] at h; cases h

/-- A taker's first cell: the words' cut. -/
def cwV (v : Value) (x : Int) : Value := match v with | .slice A n c => .slice (A.map (·.add (if c = x.toNat then x.toNat - 1 else x.toNat))) (n - x.toNat) (c - x.toNat) | u => u
theorem cwV_slice (A : Option Addr) (n c : Nat) (x : Int) : cwV (.slice A n c) x = .slice (A.map (·.add (if c = x.toNat then x.toNat - 1 else x.toNat))) (n - x.toNat) (c - x.toNat) := rfl
theorem cwV_zero (A : Option Addr) (n c : Nat) : cwV (.slice A n c) 0 = .slice A n c := by
 rw [cwV_slice, show (0 : Int).toNat = 0 from rfl, show (if c = 0 then 0 - 1 else 0) = 0 by split <;> rfl]
 cases A with
 | none => rfl
 | some a => rw [Option.map_some, Addr.add_zero']; rfl
def IsS61 (v_ : Value) (w0 W : World) (g : Nat) (f0 : Int) (f1 : Bool) : Prop := W.heap[g]? = some (.cells #[cwV v_ f0, .bool f1] 61 (0, 0)) ∧ w0.heap.size ≤ g
theorem IsS61.grown {v_ : Value} {w0 W : World} {g : Nat} {f0 : Int} {f1 : Bool} {W1 : World} {row : Option Nat} (h : IsS61 v_ w0 W g f0 f1) (hw : W.grownBy W1 row) (hne : some g ≠ row) : IsS61 v_ w0 W1 g f0 f1 := by
 obtain ⟨hb, hg⟩ := h
 exact ⟨blk_grown hb hw hne, hg⟩
theorem IsS61.own_neN {v_ : Value} {w0 W : World} {g : Nat} {f0 : Int} {f1 : Bool} {α : Type} {d : Kd α} {e : Nat} {base : Nat} {ok : Nat → Prop} {v : Value} {xs : List α} (h : IsS61 v_ w0 W g f0 f1) (ho : Kd.N d e W base ok v xs) (ht : e ≠ 61) : some g ≠ v.ownBlock := by
 obtain ⟨hb, hg⟩ := h
 exact Kd.N_ne ho hb ht
theorem IsS61.fresh {v_ : Value} {w0 W : World} {g : Nat} {f0 : Int} {f1 : Bool} (h : IsS61 v_ w0 W g f0 f1) : ∀ k, W.heap.size ≤ k → k ≠ g := by
 obtain ⟨hb, hg⟩ := h
 exact Kd.freshB hb
theorem IsS61.kept {v_ : Value} {w0 W : World} {g : Nat} {f0 : Int} {f1 : Bool} {W1 : World} {S : Nat → Prop} (h : IsS61 v_ w0 W g f0 f1) (hk : Kept W W1 S) (hne : ¬ S g) : IsS61 v_ w0 W1 g f0 f1 := by
 obtain ⟨hb, hg⟩ := h
 exact ⟨blk_kept hb hk hne, hg⟩
theorem IsS61.below {v_ : Value} {w0 W : World} {g : Nat} {f0 : Int} {f1 : Bool} {W1 : World} (h : IsS61 v_ w0 W g f0 f1) (hw : Below W.heap.size W W1) : IsS61 v_ w0 W1 g f0 f1 := h.grown (grown_of_below hw none) (by simp)
theorem IsS61.alloc {v_ : Value} {w0 W : World} {g : Nat} {f0 : Int} {f1 : Bool} (h : IsS61 v_ w0 W g f0 f1) (o : Obj) : IsS61 v_ w0 (W.alloc o) g f0 f1 := h.below (below_alloc (Below.refl _ _) o)
theorem IsS61.drewN {v_ : Value} {w0 W : World} {g : Nat} {f0 : Int} {f1 : Bool} (h : IsS61 v_ w0 W g f0 f1) (m : Nat) : IsS61 v_ w0 (W.drewN m) g f0 f1 := h
theorem IsS61.drew {v_ : Value} {w0 W : World} {g : Nat} {f0 : Int} {f1 : Bool} (h : IsS61 v_ w0 W g f0 f1) : IsS61 v_ w0 W.drew g f0 f1 := h
theorem IsS61.at_ {v_ : Value} {w0 W : World} {g : Nat} {f0 : Int} {f1 : Bool} {w' : World} {m : Nat} (hq : W.drewN m = w') (h : IsS61 v_ w0 W g f0 f1) : IsS61 v_ w0 w' g f0 f1 := by subst hq; exact IsS61.drewN h m
theorem IsS61.apart {v_ : Value} {w0 W : World} {g : Nat} {f0 : Int} {f1 : Bool} {α : Type} {d : Kd α} {e : Nat} {base : Nat} {ok : Nat → Prop} {v : Value} {xs : List α} (h : IsS61 v_ w0 W g f0 f1) (ho : d.R e W base ok v xs) (ht : ∀ q, q ∈ e :: d.E → q ≠ 61) : d.R e W base (fun k => ok k ∧ k ≠ g) v xs := by
 obtain ⟨hb, hg⟩ := h
 exact Kd.R_types ho hb ht
theorem IsS61.own_ne {v_ : Value} {w0 W : World} {g : Nat} {f0 : Int} {f1 : Bool} {α : Type} {d : Kd α} {e : Nat} {base : Nat} {ok : Nat → Prop} {v : Value} {xs : List α} (h : IsS61 v_ w0 W g f0 f1) (ho : d.R e W base ok v xs) (ht : e ≠ 61) : some g ≠ v.ownBlock := by
 obtain ⟨hb, hg⟩ := h
 exact Kd.R_ne ho hb ht
theorem IsS61.apartQ {v_ : Value} {w0 W : World} {g : Nat} {f0 : Int} {f1 : Bool} {α : Type} {d : Kd α} {e : Nat} {base : Nat} {ok : Nat → Prop} {v : Value} {xs : List α} (h : IsS61 v_ w0 W g f0 f1) (ho : d.Q e W base ok v xs) (ht : ∀ q, q ∈ e :: d.E → q ≠ 61) : d.Q e W base (fun k => ok k ∧ k ≠ g) v xs := by
 obtain ⟨hb, hg⟩ := h
 exact Kd.Q_types ho hb ht
theorem IsS61.own_neQ {v_ : Value} {w0 W : World} {g : Nat} {f0 : Int} {f1 : Bool} {α : Type} {d : Kd α} {e : Nat} {base : Nat} {ok : Nat → Prop} {v : Value} {xs : List α} (h : IsS61 v_ w0 W g f0 f1) (ho : d.Q e W base ok v xs) (ht : e ≠ 61) : some g ≠ v.ownBlock := by
 obtain ⟨hb, hg⟩ := h
 exact Kd.Q_ne ho hb ht
theorem IsS61.apartS {v_ : Value} {w0 W : World} {g : Nat} {f0 : Int} {f1 : Bool} {α : Type} {d : Kd α} {e : Nat} {base : Nat} {ok : Nat → Prop} {v : Value} {xs : List α} (h : IsS61 v_ w0 W g f0 f1) (ho : d.S e W base ok v xs) (ht : ∀ q, q ∈ e :: d.E → q ≠ 61) : d.S e W base (fun k => ok k ∧ k ≠ g) v xs := by
 obtain ⟨hb, hg⟩ := h
 exact Kd.S_types ho hb ht
theorem IsS61.own_neS {v_ : Value} {w0 W : World} {g : Nat} {f0 : Int} {f1 : Bool} {α : Type} {d : Kd α} {e : Nat} {base : Nat} {ok : Nat → Prop} {v : Value} {xs : List α} (h : IsS61 v_ w0 W g f0 f1) (ho : d.S e W base ok v xs) (ht : e ≠ 61) : some g ≠ v.ownBlock := by
 obtain ⟨hb, hg⟩ := h
 exact Kd.S_ne ho hb ht
theorem IsS61.lt {v_ : Value} {w0 W : World} {g : Nat} {f0 : Int} {f1 : Bool} (h : IsS61 v_ w0 W g f0 f1) : g < W.heap.size := by
 obtain ⟨hb, hg⟩ := h
 exact blk_lt hb
theorem IsS61.ge {v_ : Value} {w0 W : World} {g : Nat} {f0 : Int} {f1 : Bool} (h : IsS61 v_ w0 W g f0 f1) : w0.heap.size ≤ g := by
 obtain ⟨hb, hg⟩ := h
 exact hg
theorem IsS61.ne_blk {v_ : Value} {w0 W : World} {g : Nat} {f0 : Int} {f1 : Bool} {a : Nat} {cs : Array Value} {t : TypeId} {fr : Nat × Nat} (h : IsS61 v_ w0 W g f0 f1) (hb2 : W.heap[a]? = some (.cells cs t fr)) (ht : t ≠ 61) : g ≠ a := by
 obtain ⟨hb, hg⟩ := h
 rintro rfl
 rw [hb] at hb2
 injection hb2 with hb2
 injection hb2 with _ ht2
 exact ht ht2.symm
theorem IsS61.far {v_ : Value} {w0 W : World} {g : Nat} {f0 : Int} {f1 : Bool} {p : Addr} (h : IsS61 v_ w0 W g f0 f1) (hne : g ≠ p.block) (u : Value) : IsS61 v_ w0 (W.setCell p u) g f0 f1 := by
 obtain ⟨hb, hg⟩ := h
 exact ⟨blk_far hb hne u, hg⟩
theorem cellS61_0 {v_ : Value} {W : World} {g : Nat} {f0 : Int} {f1 : Bool} (h : W.heap[g]? = some (.cells #[cwV v_ f0, .bool f1] 61 (0, 0))) : W.cell? ⟨g, 0, none⟩ = some (cwV v_ f0) := (blk_cell h 0).trans rfl
theorem IsS61.set_0 {v_ : Value} {w0 W : World} {g : Nat} {f0 : Int} {f1 : Bool} (h : IsS61 v_ w0 W g f0 f1) (x : Int) : IsS61 v_ w0 (W.setCell ⟨g, 0, none⟩ (cwV v_ x)) g x f1 := by
 obtain ⟨hb, hg⟩ := h
 exact ⟨by simpa using blk_set hb 0 (cwV v_ x), hg⟩
theorem cellS61_1 {v_ : Value} {W : World} {g : Nat} {f0 : Int} {f1 : Bool} (h : W.heap[g]? = some (.cells #[cwV v_ f0, .bool f1] 61 (0, 0))) : W.cell? ⟨g, 1, none⟩ = some (.bool f1) := (blk_cell h 1).trans rfl
theorem IsS61.set_1 {v_ : Value} {w0 W : World} {g : Nat} {f0 : Int} {f1 : Bool} (h : IsS61 v_ w0 W g f0 f1) (x : Bool) : IsS61 v_ w0 (W.setCell ⟨g, 1, none⟩ (.bool x)) g f0 x := by
 obtain ⟨hb, hg⟩ := h
 exact ⟨by simpa using blk_set hb 1 (.bool x), hg⟩
theorem IsS61.new (v_ : Value) (w0 W : World) (f0 : Int) (f1 : Bool) (hB : Below w0.heap.size w0 W) : IsS61 v_ w0 (W.alloc (.cells #[cwV v_ f0, .bool f1] 61)) W.heap.size f0 f1 := ⟨by simpa using heap_alloc_new W _, hB.size⟩

/-! ### impl_taker_take: function 25 -/
def impl_taker_take.f (s0_0 : Int) (s0_1 : Bool) (l1 : List ByteArray) : Option (Int × Int × Bool) := if s0_1 = true then some (0, s0_0, true) else if 0 ≤ s0_0 then (if s0_0 < (l1.length : Int) then (impl_numberOf.f (rdOf ByteArray.empty l1 s0_0)).bind fun bt => some (bt.1, s0_0 + 1, !bt.2) else if s0_0 = (l1.length : Int) then some (0, s0_0, true) else none) else none
set_option maxHeartbeats 8000000 in
set_option maxRecDepth 100000 in
theorem impl_taker_take.calls (g : Nat) (s0_0 : Int) (s0_1 : Bool) (A1 : Option Addr) (c1 : Nat) (l1 : List ByteArray) (r1 : Int) (r2 : Int) (r3 : Bool) (w0 w : World) (hI : IsS61 (.slice A1 l1.length c1) w0 w g s0_0 s0_1) (hB : Below w0.heap.size w0 w) (hr1 : Kd.C Kd.string w A1 l1.length l1) (hc1 : l1.length ≤ c1) (hf1 : ∀ ad, A1 = some ad → 0 < l1.length → ad.block ≠ g) (h : impl_taker_take.f s0_0 s0_1 l1 = some (r1, r2, r3)) (hT : TB w0) :
  Calls Tryd.prog 25 #[.pointer (some ⟨g, 0, none⟩)] w fun e w' => e = .returned (.int .i64 r1) ∧ IsS61 (.slice A1 l1.length c1) w0 w' g r2 r3 ∧ Below w0.heap.size w0 w' ∧ KeepBut w w' g none := by
 have HT := am hT
 clear hT
 have HI0 := am hI
 have HK := am (KeepBut.refl w g none)
 have HB := am hB
 clear hI hB
 have H := h
 unfold impl_taker_take.f at H
 clear h
 by_cases c3 : s0_1 = true
 ·subst c3
  rw [if_pos rfl] at H
  simp only [Option.some.injEq, Prod.mk.injEq] at H
  obtain ⟨rfl, rfl, rfl⟩ := H
  obtain ⟨HGz4, hgz4⟩ := HI0.out
  have hcz4_0 := cellS61_0 HGz4
  have hcz4_1 := cellS61_1 HGz4
  have hfz4_0 := blk_frozen HGz4 0
  have hfz4_1 := blk_frozen HGz4 1
  clear HGz4 hgz4
  go_enter Tryd.func25, Tryd.ntmps25
  go_wp2
  go_ret
  exact ⟨by first | rfl | (simp; done), by repeat (first | (with_reducible first | exact HI0.out | apply IsS61.alloc | apply IsS61.drewN | apply IsS61.drew | apply IsS61.set_0 | apply IsS61.set_1) | exact HI0.out), by repeat (first | (with_reducible first | exact HB.out | apply b1 | apply b2 | apply b3 | refine below_set ?_ (IsS61.ge HI0.out)) | exact HB.out), by repeat (first | (with_reducible first | exact HK.out | apply KeepBut.set_ | apply keep_drewN | apply keep_drew | apply keep_alloc) | exact HK.out)⟩
 ·replace c3 := Bool.eq_false_iff.mpr c3
  subst c3
  rw [if_neg (show ¬ (false = true) by decide)] at H
  by_cases c5 : 0 ≤ s0_0
  rotate_left
  ·rw [if_neg c5] at H; cases H
  rw [if_pos c5] at H
  obtain ⟨i, rfl⟩ := Int.eq_ofNat_of_zero_le c5
  clear c5
  by_cases c6 : (i : Int) < (l1.length : Int)
  rotate_left
  ·rw [if_neg c6] at H
   by_cases c7 : (i : Int) = (l1.length : Int)
   rotate_left
   ·rw [if_neg c7] at H; cases H
   rw [if_pos c7] at H
   simp only [Option.some.injEq, Prod.mk.injEq] at H
   obtain ⟨rfl, rfl, rfl⟩ := H
   obtain ⟨X, Y, hX⟩ : ∃ X Y, cwV (.slice A1 l1.length c1) (i : Int) = .slice X 0 Y := ⟨_, _, by rw [cwV_slice, Int.toNat_natCast, show l1.length - i = 0 by omega]⟩
   obtain ⟨HGz4, hgz4⟩ := HI0.out
   have hcz4_0 := cellS61_0 HGz4
   rw [hX] at hcz4_0
   have hcz4_1 := cellS61_1 HGz4
   have hfz4_0 := blk_frozen HGz4 0
   have hfz4_1 := blk_frozen HGz4 1
   clear HGz4 hgz4 hX c6 c7 hr1 hc1 hf1
   go_enter Tryd.func25, Tryd.ntmps25
   go_wp2
   go_ret
   exact ⟨by first | rfl | (simp; done), by repeat (first | (with_reducible first | exact HI0.out | apply IsS61.alloc | apply IsS61.drewN | apply IsS61.drew | apply IsS61.set_0 | apply IsS61.set_1) | exact HI0.out), by repeat (first | (with_reducible first | exact HB.out | apply b1 | apply b2 | apply b3 | refine below_set ?_ (IsS61.ge HI0.out)) | exact HB.out), by repeat (first | (with_reducible first | exact HK.out | apply KeepBut.set_ | apply keep_drewN | apply keep_drew | apply keep_alloc) | exact HK.out)⟩
  rw [if_pos c6] at H
  have hi : i < l1.length := by omega
  obtain ⟨⟨t312, t313⟩, A130, H⟩ := Option.bind_eq_some_iff.mp H
  replace H : some (t312, (i : Int) + 1, !t313) = some (r1, r2, r3) := H
  simp only [Option.some.injEq, Prod.mk.injEq] at H
  obtain ⟨rfl, rfl, rfl⟩ := H
  have A13 := am A130
  clear A130
  obtain ⟨ad, rfl, hcell⟩ := hr1.2.2 (by omega)
  obtain ⟨cs, hcl, hk, hcc⟩ := hcell i _ (List.getElem?_eq_getElem hi)
  have hk' : cs = [.string l1[i]] := hk
  subst hk'
  have hx := hcc 0 _ rfl
  obtain ⟨AD, hAD⟩ : ∃ AD, AD = ad.add i := ⟨_, rfl⟩
  obtain ⟨m, hm⟩ : ∃ m, m = l1.length - i := ⟨_, rfl⟩
  obtain ⟨Y, hY⟩ : ∃ Y, Y = c1 - i := ⟨_, rfl⟩
  obtain ⟨wd, hwd⟩ : ∃ wd, wd = rdOf ByteArray.empty l1 (i : Int) := ⟨_, rfl⟩
  have hrd : wd = l1[i] := by
   rw [hwd]
   unfold rdOf
   rw [Int.toNat_natCast, List.getD_eq_getElem?_getD, List.getElem?_eq_getElem hi]; rfl
  rw [← hwd] at A13
  have hx2 : w.cell? AD = some (.string wd) := by
   rw [hAD, hrd, ← hx]
   congr 2
   show i = i * 1 + 0
   omega
  have hne : AD.block ≠ g := by rw [hAD, add_block]; exact hf1 ad rfl (by omega)
  have hcw : cwV (.slice (some ad) l1.length c1) (i : Int) = .slice (some AD) m Y := by
   rw [cwV_slice, Int.toNat_natCast, if_neg (by omega), hAD, hm, hY]; rfl
  obtain ⟨i0, hi0, _, hsz, _⟩ := info_parts info9
  have hcut : ∀ W : World, (Instr.slice 58 (.slice (some AD) m Y) (some (.int .i64 1)) none none).run Tryd.prog W = .ok (cwV (.slice (some ad) l1.length c1) ((i : Int) + 1)) W := by
   intro W
   rw [cut_from (P := Tryd.prog) 58 9 .i64 Tryd.underlying58 hi0 1 hsz (some AD) m Y 1 (by omega) (by omega) W]
   rw [cwV_slice, show ((i : Int) + 1).toNat = i + 1 by omega, show (1 : Int).toNat = 1 from rfl]
   congr 1
   by_cases q : c1 = i + 1
   ·rw [if_pos (show Y = 1 by omega), if_pos q, hAD, show i + 1 - 1 = i by omega, show m - 1 = l1.length - (i + 1) by omega, show Y - 1 = c1 - (i + 1) by omega]; rfl
   ·rw [if_neg (show ¬ Y = 1 by omega), if_neg q, hAD, show m - 1 = l1.length - (i + 1) by omega, show Y - 1 = c1 - (i + 1) by omega, Option.map_some, Option.map_some, Addr.add_add]
  obtain ⟨XA, XN, XC, hV2⟩ : ∃ (XA : Option Addr) (XN XC : Nat), (Value.slice XA XN XC) = cwV (.slice (some ad) l1.length c1) ((i : Int) + 1) := ⟨_, _, _, (cwV_slice _ _ _ _).symm⟩
  rw [← hV2] at hcut
  have HV := am hV2
  have HCW := am hcw
  have hm0 : (0 < m) = True := eq_true (by omega)
  have hmz : (((m : Nat) : Int) == 0) = false := beq_eq_false_iff_ne.mpr (by omega)
  have hcz_0 : w.cell? ⟨g, 0, none⟩ = some (.slice (some AD) m Y) := by rw [← hcw]; exact cellS61_0 HI0.out.1
  have hcz_1 := cellS61_1 HI0.out.1
  have hfz_0 := blk_frozen HI0.out.1 0
  have hfz_1 := blk_frozen HI0.out.1 1
  clear hV2 hcw hrd hwd hAD hm hY hx hcc hk hcl hcell hr1 hc1 hf1 c6 hi hi0 hsz hne
  go_enter Tryd.func25, Tryd.ntmps25
  go_wp2_with (go_at_call 42; refine Calls.mono (impl_numberOf.calls wd t312 t313 _ A13.out (TB.below HT.out HB.out)) ?_)
  rintro e w20 ⟨rfl, hb⟩
  have n0_ := am (IsS61.below (by repeat (first | (with_reducible first | exact HI0.out | apply IsS61.alloc | apply IsS61.drewN | apply IsS61.drew | apply IsS61.set_0 | apply IsS61.set_1) | exact HI0.out)) hb)
  have n1_ := am (KeepBut.trans (by repeat (first | (with_reducible first | exact HK.out | apply KeepBut.set_ | apply keep_drewN | apply keep_drew | apply keep_alloc) | exact HK.out)) (KeepBut.of_below hb g none) (.inl rfl))
  have n2_ := am (below_step (by repeat (first | (with_reducible first | exact HB.out | apply b1 | apply b2 | apply b3 | refine below_set ?_ (IsS61.ge HI0.out)) | exact HB.out)) hb)
  clear HI0
  clear HK
  clear HB
  have HI0 := n0_
  have HK := n1_
  have HB := n2_
  clear n0_ n1_ n2_
  clear hb
  have hdz_0 : w20.cell? ⟨g, 0, none⟩ = some (.slice (some AD) m Y) := by rw [← HCW.out]; exact cellS61_0 HI0.out.1
  have hdz_1 := cellS61_1 HI0.out.1
  have hez_0 := blk_frozen HI0.out.1 0
  have hez_1 := blk_frozen HI0.out.1 1
  go_wp2
  go_region
  all_goals (
   go_wp2
   go_ret
   exact ⟨by first | rfl | (simp; done), by rw [HV.out]; repeat (first | (with_reducible first | exact HI0.out | apply IsS61.alloc | apply IsS61.drewN | apply IsS61.drew | apply IsS61.set_0 | apply IsS61.set_1) | exact HI0.out), by repeat (first | (with_reducible first | exact HB.out | apply b1 | apply b2 | apply b3 | refine below_set ?_ (IsS61.ge HI0.out)) | exact HB.out), by repeat (first | (with_reducible first | exact HK.out | apply KeepBut.set_ | apply keep_drewN | apply keep_drew | apply keep_alloc) | exact HK.out)⟩)
/-! ### impl_taker_cell: function 27 -/
def impl_taker_cell.f (s0_0 : Int) (s0_1 : Bool) (l1 : List ByteArray) : Option (Int × Int × Int × Bool × Bool × Bool × Int × Int × Bool) := (impl_taker_take.f s0_0 s0_1 l1).bind fun bt317 => ((impl_taker_take.f bt317.2.1 bt317.2.2 l1).bind fun bt321 => ((impl_taker_take.f bt321.2.1 bt321.2.2 l1).bind fun bt324 => ((impl_taker_take.f bt324.2.1 bt324.2.2 l1).bind fun bt327 => ((impl_taker_take.f bt327.2.1 bt327.2.2 l1).bind fun bt330 => (some (bt317.1, bt321.1, bt324.1, decide ((Go.bits .and .i64 bt327.1 1) > 0), decide ((Go.bits .and .i64 bt327.1 2) > 0), decide ((Go.bits .and .i64 bt327.1 4) > 0), bt330.1, bt330.2.1, bt330.2.2))))))
set_option maxHeartbeats 8000000 in
set_option maxRecDepth 100000 in
theorem impl_taker_cell.calls (g : Nat) (s0_0 : Int) (s0_1 : Bool) (A1 : Option Addr) (c1 : Nat) (l1 : List ByteArray) (r1 : Int) (r2 : Int) (r3 : Int) (r4 : Bool) (r5 : Bool) (r6 : Bool) (r7 : Int) (r8 : Int) (r9 : Bool) (w0 w : World) (hI : IsS61 (.slice A1 l1.length c1) w0 w g s0_0 s0_1) (hB : Below w0.heap.size w0 w) (hr1 : Kd.C Kd.string w A1 l1.length l1) (hc1 : l1.length ≤ c1) (hf1 : ∀ ad, A1 = some ad → 0 < l1.length → ad.block ≠ g) (h : impl_taker_cell.f s0_0 s0_1 l1 = some (r1, r2, r3, r4, r5, r6, r7, r8, r9)) (hT : TB w0) :
  Calls Tryd.prog 27 #[.pointer (some ⟨g, 0, none⟩)] w fun e w' => e = .returned (.agg #[.int .i64 r1, .int .i64 r2, .int .i64 r3, .bool r4, .bool r5, .bool r6, .int .i64 r7]) ∧ IsS61 (.slice A1 l1.length c1) w0 w' g r8 r9 ∧ Below w0.heap.size w0 w' ∧ KeepBut w w' g none := by
 have HT := am hT
 clear hT
 have hu45 := Tryd.underlying45
 have HR1 := am hr1
 have HC1 := am hc1
 clear hr1 hc1
 have HI0 := am hI
 have HK := am (KeepBut.refl w g none)
 have HL := am hB.size
 clear hI
 have HW0 := am hB.size
 have HB := am hB
 clear hB
 have H : ((impl_taker_take.f s0_0 s0_1 l1).bind fun bt317 => ((impl_taker_take.f bt317.2.1 bt317.2.2 l1).bind fun bt321 => ((impl_taker_take.f bt321.2.1 bt321.2.2 l1).bind fun bt324 => ((impl_taker_take.f bt324.2.1 bt324.2.2 l1).bind fun bt327 => ((impl_taker_take.f bt327.2.1 bt327.2.2 l1).bind fun bt330 => (some (bt317.1, bt321.1, bt324.1, decide ((Go.bits .and .i64 bt327.1 1) > 0), decide ((Go.bits .and .i64 bt327.1 2) > 0), decide ((Go.bits .and .i64 bt327.1 4) > 0), bt330.1, bt330.2.1, bt330.2.2))))))) = some (r1, r2, r3, r4, r5, r6, r7, r8, r9) := h
 clear h
 replace H := Option.bind_eq_some_iff.mp H
 obtain ⟨⟨t317, t318, t319⟩, A30, H⟩ := H
 replace H : ((impl_taker_take.f t318 t319 l1).bind fun bt321 => ((impl_taker_take.f bt321.2.1 bt321.2.2 l1).bind fun bt324 => ((impl_taker_take.f bt324.2.1 bt324.2.2 l1).bind fun bt327 => ((impl_taker_take.f bt327.2.1 bt327.2.2 l1).bind fun bt330 => (some (t317, bt321.1, bt324.1, decide ((Go.bits .and .i64 bt327.1 1) > 0), decide ((Go.bits .and .i64 bt327.1 2) > 0), decide ((Go.bits .and .i64 bt327.1 4) > 0), bt330.1, bt330.2.1, bt330.2.2)))))) = some (r1, r2, r3, r4, r5, r6, r7, r8, r9) := H
 have A3 := am A30
 clear A30
 replace H := Option.bind_eq_some_iff.mp H
 obtain ⟨⟨t321, t322, t323⟩, A40, H⟩ := H
 replace H : ((impl_taker_take.f t322 t323 l1).bind fun bt324 => ((impl_taker_take.f bt324.2.1 bt324.2.2 l1).bind fun bt327 => ((impl_taker_take.f bt327.2.1 bt327.2.2 l1).bind fun bt330 => (some (t317, t321, bt324.1, decide ((Go.bits .and .i64 bt327.1 1) > 0), decide ((Go.bits .and .i64 bt327.1 2) > 0), decide ((Go.bits .and .i64 bt327.1 4) > 0), bt330.1, bt330.2.1, bt330.2.2))))) = some (r1, r2, r3, r4, r5, r6, r7, r8, r9) := H
 have A4 := am A40
 clear A40
 replace H := Option.bind_eq_some_iff.mp H
 obtain ⟨⟨t324, t325, t326⟩, A50, H⟩ := H
 replace H : ((impl_taker_take.f t325 t326 l1).bind fun bt327 => ((impl_taker_take.f bt327.2.1 bt327.2.2 l1).bind fun bt330 => (some (t317, t321, t324, decide ((Go.bits .and .i64 bt327.1 1) > 0), decide ((Go.bits .and .i64 bt327.1 2) > 0), decide ((Go.bits .and .i64 bt327.1 4) > 0), bt330.1, bt330.2.1, bt330.2.2)))) = some (r1, r2, r3, r4, r5, r6, r7, r8, r9) := H
 have A5 := am A50
 clear A50
 replace H := Option.bind_eq_some_iff.mp H
 obtain ⟨⟨t327, t328, t329⟩, A60, H⟩ := H
 replace H : ((impl_taker_take.f t328 t329 l1).bind fun bt330 => (some (t317, t321, t324, decide ((Go.bits .and .i64 t327 1) > 0), decide ((Go.bits .and .i64 t327 2) > 0), decide ((Go.bits .and .i64 t327 4) > 0), bt330.1, bt330.2.1, bt330.2.2))) = some (r1, r2, r3, r4, r5, r6, r7, r8, r9) := H
 have A6 := am A60
 clear A60
 replace H := Option.bind_eq_some_iff.mp H
 obtain ⟨⟨t330, t331, t332⟩, A70, H⟩ := H
 replace H : (some (t317, t321, t324, decide ((Go.bits .and .i64 t327 1) > 0), decide ((Go.bits .and .i64 t327 2) > 0), decide ((Go.bits .and .i64 t327 4) > 0), t330, t331, t332)) = some (r1, r2, r3, r4, r5, r6, r7, r8, r9) := H
 have A7 := am A70
 clear A70
 simp only [Option.some.injEq, Prod.mk.injEq] at H
 obtain ⟨rfl, rfl, rfl, rfl, rfl, rfl, rfl, rfl, rfl⟩ := H
 go_enter Tryd.func27, Tryd.ntmps27
 go_wp2_with (first | ((with_reducible refine gate_dst (N := 2) rfl ?_); refine box_event ?hg (N := 2) ?hd (cs := #[.int .i64 0, .int .i64 0, .int .i64 0, .bool false, .bool false, .bool false, .int .i64 0]) (t := 45) ?hr ?_; (case hd => rfl); (case hg => rfl); (case hr => first | (go_simp; done) | (go_simp; rfl)); intro gb316 hg w8 hbox hb; have n0_ := am (IsS61.below (by repeat (first | (with_reducible first | exact HI0.out | apply IsS61.alloc | apply IsS61.drewN | apply IsS61.drew | apply IsS61.set_0 | apply IsS61.set_1) | exact HI0.out)) hb); have n1_ := am (KeepBut.trans (by repeat (first | (with_reducible first | exact HK.out | apply KeepBut.set_ | apply keep_drewN | apply keep_drew | apply keep_alloc) | exact HK.out)) (KeepBut.of_below hb g none) (.inl rfl)); have n2_ := am (below_step (by repeat (first | (with_reducible first | exact HB.out | apply b1 | apply b2 | apply b3 | refine below_set ?_ (IsS61.ge HI0.out)) | exact HB.out)) hb); have n3_ := am (hbox); have n4_ := am ((by rw [hg]; exact (keep_size (w := w) (g := g) (row := none) (by repeat (first | (with_reducible first | exact HK.out | apply KeepBut.set_ | apply keep_drewN | apply keep_drew | apply keep_alloc) | exact HK.out))) : w.heap.size ≤ gb316)); have n5_ := am ((Nat.le_trans HW0.out (by rw [hg]; exact (keep_size (w := w) (g := g) (row := none) (by repeat (first | (with_reducible first | exact HK.out | apply KeepBut.set_ | apply keep_drewN | apply keep_drew | apply keep_alloc) | exact HK.out))) : w.heap.size ≤ gb316) : w0.heap.size ≤ gb316)); have n6_ := am ((by rw [hg]; exact Nat.ne_of_lt (IsS61.lt (show IsS61 (.slice A1 l1.length c1) w0 _ g s0_0 s0_1 from by repeat (first | (with_reducible first | exact HI0.out | apply IsS61.alloc | apply IsS61.drewN | apply IsS61.drew | apply IsS61.set_0 | apply IsS61.set_1) | exact HI0.out))) : g ≠ gb316)); have n7_ := am ((by rw [hg]; exact Nat.ne_of_gt (IsS61.lt (show IsS61 (.slice A1 l1.length c1) w0 _ g s0_0 s0_1 from by repeat (first | (with_reducible first | exact HI0.out | apply IsS61.alloc | apply IsS61.drewN | apply IsS61.drew | apply IsS61.set_0 | apply IsS61.set_1) | exact HI0.out))) : gb316 ≠ g)); clear HI0; clear HK; clear HB; have HI0 := n0_; have HK := n1_; have HB := n2_; have BK316 := n3_; have GW316 := n4_; have GE316 := n5_; have NB0_316 := n6_; have NB316_0 := n7_; clear n0_ n1_ n2_ n3_ n4_ n5_ n6_ n7_; clear hb hbox hg) | ((with_reducible refine gate_callee (f := 25) rfl ?_); refine gl_ (some 6) Tryd.func25 #[.pointer (some ⟨g, 0, none⟩)] ?_; (with_reducible refine (impl_taker_take.calls g s0_0 s0_1 A1 c1 l1 t317 t318 t319 w0 _ ?side1 ?side2 ?side3 ?side4 ?side5 A3.out ?sideT).mono ?_); (case sideT => exact HT.out); (case side1 => repeat (first | (with_reducible first | exact HI0.out | apply IsS61.alloc | apply IsS61.drewN | apply IsS61.drew | apply IsS61.set_0 | apply IsS61.set_1 | refine IsS61.far ?_ NB0_316.out _) | exact HI0.out)); (case side2 => repeat (first | (with_reducible first | exact HB.out | apply b1 | apply b2 | apply b3 | refine below_set ?_ (IsS61.ge HI0.out) | refine below_set ?_ GE316.out) | exact HB.out)); (case side3 => exact Kd.C_keep (⟨#[]⟩ : ByteArray) HR1.out (by repeat (first | (with_reducible first | exact HK.out | apply KeepBut.set_ | apply keep_drewN | apply keep_drew | apply keep_alloc | refine keep_far ?_ GW316.out _) | exact HK.out)) hf1); (case side4 => exact HC1.out); (case side5 => exact hf1); rintro e w9 ⟨rfl, hi, hb, hk⟩; refine ⟨_, rfl, ?_⟩; have n0_ := am (KeepBut.blk hk (g' := gb316) (o := .cells #[.int .i64 0, .int .i64 0, .int .i64 0, .bool false, .bool false, .bool false, .int .i64 0] 45 (0, 0)) (rk BK316) NB316_0.out (by simp)); have n1_ := am (KeepBut.trans (by repeat (first | (with_reducible first | exact HK.out | apply KeepBut.set_ | apply keep_drewN | apply keep_drew | apply keep_alloc | refine keep_far ?_ GW316.out _) | exact HK.out)) hk (.inl rfl)); have n2_ := am (hb); have n3_ := am (hi); clear BK316; clear HK; clear HB; clear HI0; have BK316 := n0_; have HK := n1_; have HB := n2_; have HI0 := n3_; clear n0_ n1_ n2_ n3_; (try clear hb); (try clear hb2); (try clear hk); (try clear hi)) | ((with_reducible refine gate_dst (N := 3) rfl ?_); refine box_event ?hg (N := 3) ?hd (cs := #[.int .i64 0, .int .i64 0, .int .i64 0, .bool false, .bool false, .bool false, .int .i64 0]) (t := 45) ?hr ?_; (case hd => rfl); (case hg => rfl); (case hr => first | (go_simp; done) | (go_simp; rfl)); intro gb320 hg w10 hbox hb; have n0_ := am (IsS61.below (by repeat (first | (with_reducible first | exact HI0.out | apply IsS61.alloc | apply IsS61.drewN | apply IsS61.drew | apply IsS61.set_0 | apply IsS61.set_1 | refine IsS61.far ?_ NB0_316.out _) | exact HI0.out)) hb); have n1_ := am (blk_below (g := gb316) (o := .cells #[.int .i64 0, .int .i64 0, .int .i64 0, .bool false, .bool false, .bool false, .int .i64 0] 45 (0, 0)) (rk BK316) hb); have n2_ := am (KeepBut.trans (by repeat (first | (with_reducible first | exact HK.out | apply KeepBut.set_ | apply keep_drewN | apply keep_drew | apply keep_alloc | refine keep_far ?_ GW316.out _) | exact HK.out)) (KeepBut.of_below hb g none) (.inl rfl)); have n3_ := am (below_step (by repeat (first | (with_reducible first | exact HB.out | apply b1 | apply b2 | apply b3 | refine below_set ?_ (IsS61.ge HI0.out) | refine below_set ?_ GE316.out) | exact HB.out)) hb); have n4_ := am (hbox); have n5_ := am ((by rw [hg]; exact (keep_size (w := w) (g := g) (row := none) (by repeat (first | (with_reducible first | exact HK.out | apply KeepBut.set_ | apply keep_drewN | apply keep_drew | apply keep_alloc | refine keep_far ?_ GW316.out _) | exact HK.out))) : w.heap.size ≤ gb320)); have n6_ := am ((Nat.le_trans HW0.out (by rw [hg]; exact (keep_size (w := w) (g := g) (row := none) (by repeat (first | (with_reducible first | exact HK.out | apply KeepBut.set_ | apply keep_drewN | apply keep_drew | apply keep_alloc | refine keep_far ?_ GW316.out _) | exact HK.out))) : w.heap.size ≤ gb320) : w0.heap.size ≤ gb320)); have n7_ := am ((by rw [hg]; exact Nat.ne_of_lt (blk_lt (g := gb316) (o := .cells #[.int .i64 0, .int .i64 0, .int .i64 0, .bool false, .bool false, .bool false, .int .i64 0] 45 (0, 0)) (rk BK316)) : gb316 ≠ gb320)); have n8_ := am ((by rw [hg]; exact Nat.ne_of_gt (blk_lt (g := gb316) (o := .cells #[.int .i64 0, .int .i64 0, .int .i64 0, .bool false, .bool false, .bool false, .int .i64 0] 45 (0, 0)) (rk BK316)) : gb320 ≠ gb316)); have n9_ := am ((by rw [hg]; exact Nat.ne_of_lt (IsS61.lt (show IsS61 (.slice A1 l1.length c1) w0 _ g t318 t319 from by repeat (first | (with_reducible first | exact HI0.out | apply IsS61.alloc | apply IsS61.drewN | apply IsS61.drew | apply IsS61.set_0 | apply IsS61.set_1 | refine IsS61.far ?_ NB0_316.out _) | exact HI0.out))) : g ≠ gb320)); have n10_ := am ((by rw [hg]; exact Nat.ne_of_gt (IsS61.lt (show IsS61 (.slice A1 l1.length c1) w0 _ g t318 t319 from by repeat (first | (with_reducible first | exact HI0.out | apply IsS61.alloc | apply IsS61.drewN | apply IsS61.drew | apply IsS61.set_0 | apply IsS61.set_1 | refine IsS61.far ?_ NB0_316.out _) | exact HI0.out))) : gb320 ≠ g)); clear HI0; clear BK316; clear HK; clear HB; have HI0 := n0_; have BK316 := n1_; have HK := n2_; have HB := n3_; have BK320 := n4_; have GW320 := n5_; have GE320 := n6_; have NB316_320 := n7_; have NB320_316 := n8_; have NB0_320 := n9_; have NB320_0 := n10_; clear n0_ n1_ n2_ n3_ n4_ n5_ n6_ n7_ n8_ n9_ n10_; clear hb hbox hg; have hnb11 := NB320_316.out; have hnc11 := NB316_320.out; have hnb12 := NB320_0.out; have hnc12 := NB0_320.out; have hcz13_0 : w10.cell? ⟨gb320, 0, none⟩ = some (.int .i64 0) := (blk_cell BK320.out 0).trans rfl; have hcz13_1 : w10.cell? ⟨gb320, 1, none⟩ = some (.int .i64 0) := (blk_cell BK320.out 1).trans rfl; have hcz13_2 : w10.cell? ⟨gb320, 2, none⟩ = some (.int .i64 0) := (blk_cell BK320.out 2).trans rfl; have hcz13_3 : w10.cell? ⟨gb320, 3, none⟩ = some (.bool false) := (blk_cell BK320.out 3).trans rfl; have hcz13_4 : w10.cell? ⟨gb320, 4, none⟩ = some (.bool false) := (blk_cell BK320.out 4).trans rfl; have hcz13_5 : w10.cell? ⟨gb320, 5, none⟩ = some (.bool false) := (blk_cell BK320.out 5).trans rfl; have hcz13_6 : w10.cell? ⟨gb320, 6, none⟩ = some (.int .i64 0) := (blk_cell BK320.out 6).trans rfl; have hfz13_0 := blk_frozen BK320.out 0; have hfz13_1 := blk_frozen BK320.out 1; have hfz13_2 := blk_frozen BK320.out 2; have hfz13_3 := blk_frozen BK320.out 3; have hfz13_4 := blk_frozen BK320.out 4; have hfz13_5 := blk_frozen BK320.out 5; have hfz13_6 := blk_frozen BK320.out 6) | ((with_reducible refine gate_callee (f := 25) rfl ?_); refine gl_ (some 9) Tryd.func25 #[.pointer (some ⟨g, 0, none⟩)] ?_; (with_reducible refine (impl_taker_take.calls g t318 t319 A1 c1 l1 t321 t322 t323 w0 _ ?side1 ?side2 ?side3 ?side4 ?side5 A4.out ?sideT).mono ?_); (case sideT => exact HT.out); (case side1 => repeat (first | (with_reducible first | exact HI0.out | apply IsS61.alloc | apply IsS61.drewN | apply IsS61.drew | apply IsS61.set_0 | apply IsS61.set_1 | refine IsS61.far ?_ NB0_316.out _ | refine IsS61.far ?_ NB0_320.out _) | exact HI0.out)); (case side2 => repeat (first | (with_reducible first | exact HB.out | apply b1 | apply b2 | apply b3 | refine below_set ?_ (IsS61.ge HI0.out) | refine below_set ?_ GE316.out | refine below_set ?_ GE320.out) | exact HB.out)); (case side3 => exact Kd.C_keep (⟨#[]⟩ : ByteArray) HR1.out (by repeat (first | (with_reducible first | exact HK.out | apply KeepBut.set_ | apply keep_drewN | apply keep_drew | apply keep_alloc | refine keep_far ?_ GW316.out _ | refine keep_far ?_ GW320.out _) | exact HK.out)) hf1); (case side4 => exact HC1.out); (case side5 => exact hf1); rintro e w14 ⟨rfl, hi, hb, hk⟩; refine ⟨_, rfl, ?_⟩; have n0_ := am (KeepBut.blk hk (g' := gb316) (o := .cells #[.int .i64 0, .int .i64 0, .int .i64 0, .bool false, .bool false, .bool false, .int .i64 0] 45 (0, 0)) (by (with_reducible repeat (first | apply k1 | apply k2 | apply k3)); refine blk_far ?_ NB316_320.out _; (with_reducible repeat (first | apply k1 | apply k2 | apply k3)); refine blk_far ?_ NB316_320.out _; (with_reducible repeat (first | apply k1 | apply k2 | apply k3)); refine blk_far ?_ NB316_320.out _; (with_reducible repeat (first | apply k1 | apply k2 | apply k3)); refine blk_far ?_ NB316_320.out _; (with_reducible repeat (first | apply k1 | apply k2 | apply k3)); refine blk_far ?_ NB316_320.out _; (with_reducible repeat (first | apply k1 | apply k2 | apply k3)); refine blk_far ?_ NB316_320.out _; (with_reducible repeat (first | apply k1 | apply k2 | apply k3)); refine blk_far ?_ NB316_320.out _; (with_reducible repeat (first | apply k1 | apply k2 | apply k3)); exact BK316.out) NB316_0.out (by simp)); have n1_ := am (KeepBut.blk hk (g' := gb320) (o := .cells #[.int .i64 t317, .int .i64 0, .int .i64 0, .bool false, .bool false, .bool false, .int .i64 0] 45 (0, 0)) (by (with_reducible repeat (first | apply k1 | apply k2 | apply k3)); refine blk_put (cs := #[.int .i64 t317, .int .i64 0, .int .i64 0, .bool false, .bool false, .bool false, .int .i64 0]) ?_ 6 _ rfl; (with_reducible repeat (first | apply k1 | apply k2 | apply k3)); refine blk_put (cs := #[.int .i64 t317, .int .i64 0, .int .i64 0, .bool false, .bool false, .bool false, .int .i64 0]) ?_ 5 _ rfl; (with_reducible repeat (first | apply k1 | apply k2 | apply k3)); refine blk_put (cs := #[.int .i64 t317, .int .i64 0, .int .i64 0, .bool false, .bool false, .bool false, .int .i64 0]) ?_ 4 _ rfl; (with_reducible repeat (first | apply k1 | apply k2 | apply k3)); refine blk_put (cs := #[.int .i64 t317, .int .i64 0, .int .i64 0, .bool false, .bool false, .bool false, .int .i64 0]) ?_ 3 _ rfl; (with_reducible repeat (first | apply k1 | apply k2 | apply k3)); refine blk_put (cs := #[.int .i64 t317, .int .i64 0, .int .i64 0, .bool false, .bool false, .bool false, .int .i64 0]) ?_ 2 _ rfl; (with_reducible repeat (first | apply k1 | apply k2 | apply k3)); refine blk_put (cs := #[.int .i64 t317, .int .i64 0, .int .i64 0, .bool false, .bool false, .bool false, .int .i64 0]) ?_ 1 _ rfl; (with_reducible repeat (first | apply k1 | apply k2 | apply k3)); refine blk_put (cs := #[.int .i64 0, .int .i64 0, .int .i64 0, .bool false, .bool false, .bool false, .int .i64 0]) ?_ 0 _ rfl; (with_reducible repeat (first | apply k1 | apply k2 | apply k3)); exact BK320.out) NB320_0.out (by simp)); have n2_ := am (KeepBut.trans (by repeat (first | (with_reducible first | exact HK.out | apply KeepBut.set_ | apply keep_drewN | apply keep_drew | apply keep_alloc | refine keep_far ?_ GW316.out _ | refine keep_far ?_ GW320.out _) | exact HK.out)) hk (.inl rfl)); have n3_ := am (hb); have n4_ := am (hi); clear BK316; clear BK320; clear HK; clear HB; clear HI0; have BK316 := n0_; have BK320 := n1_; have HK := n2_; have HB := n3_; have HI0 := n4_; clear n0_ n1_ n2_ n3_ n4_; (try clear hb); (try clear hb2); (try clear hk); (try clear hi); have hcz15_0 : w14.cell? ⟨gb320, 0, none⟩ = some (.int .i64 t317) := (blk_cell BK320.out 0).trans rfl; have hcz15_1 : w14.cell? ⟨gb320, 1, none⟩ = some (.int .i64 0) := (blk_cell BK320.out 1).trans rfl; have hcz15_2 : w14.cell? ⟨gb320, 2, none⟩ = some (.int .i64 0) := (blk_cell BK320.out 2).trans rfl; have hcz15_3 : w14.cell? ⟨gb320, 3, none⟩ = some (.bool false) := (blk_cell BK320.out 3).trans rfl; have hcz15_4 : w14.cell? ⟨gb320, 4, none⟩ = some (.bool false) := (blk_cell BK320.out 4).trans rfl; have hcz15_5 : w14.cell? ⟨gb320, 5, none⟩ = some (.bool false) := (blk_cell BK320.out 5).trans rfl; have hcz15_6 : w14.cell? ⟨gb320, 6, none⟩ = some (.int .i64 0) := (blk_cell BK320.out 6).trans rfl; have hfz15_0 := blk_frozen BK320.out 0; have hfz15_1 := blk_frozen BK320.out 1; have hfz15_2 := blk_frozen BK320.out 2; have hfz15_3 := blk_frozen BK320.out 3; have hfz15_4 := blk_frozen BK320.out 4; have hfz15_5 := blk_frozen BK320.out 5; have hfz15_6 := blk_frozen BK320.out 6) | ((with_reducible refine gate_callee (f := 25) rfl ?_); refine gl_ (some 13) Tryd.func25 #[.pointer (some ⟨g, 0, none⟩)] ?_; (with_reducible refine (impl_taker_take.calls g t322 t323 A1 c1 l1 t324 t325 t326 w0 _ ?side1 ?side2 ?side3 ?side4 ?side5 A5.out ?sideT).mono ?_); (case sideT => exact HT.out); (case side1 => repeat (first | (with_reducible first | exact HI0.out | apply IsS61.alloc | apply IsS61.drewN | apply IsS61.drew | apply IsS61.set_0 | apply IsS61.set_1 | refine IsS61.far ?_ NB0_316.out _ | refine IsS61.far ?_ NB0_320.out _) | exact HI0.out)); (case side2 => repeat (first | (with_reducible first | exact HB.out | apply b1 | apply b2 | apply b3 | refine below_set ?_ (IsS61.ge HI0.out) | refine below_set ?_ GE316.out | refine below_set ?_ GE320.out) | exact HB.out)); (case side3 => exact Kd.C_keep (⟨#[]⟩ : ByteArray) HR1.out (by repeat (first | (with_reducible first | exact HK.out | apply KeepBut.set_ | apply keep_drewN | apply keep_drew | apply keep_alloc | refine keep_far ?_ GW316.out _ | refine keep_far ?_ GW320.out _) | exact HK.out)) hf1); (case side4 => exact HC1.out); (case side5 => exact hf1); rintro e w16 ⟨rfl, hi, hb, hk⟩; refine ⟨_, rfl, ?_⟩; have n0_ := am (KeepBut.blk hk (g' := gb316) (o := .cells #[.int .i64 0, .int .i64 0, .int .i64 0, .bool false, .bool false, .bool false, .int .i64 0] 45 (0, 0)) (by (with_reducible repeat (first | apply k1 | apply k2 | apply k3)); refine blk_far ?_ NB316_320.out _; (with_reducible repeat (first | apply k1 | apply k2 | apply k3)); exact BK316.out) NB316_0.out (by simp)); have n1_ := am (KeepBut.blk hk (g' := gb320) (o := .cells #[.int .i64 t317, .int .i64 t321, .int .i64 0, .bool false, .bool false, .bool false, .int .i64 0] 45 (0, 0)) (by (with_reducible repeat (first | apply k1 | apply k2 | apply k3)); refine blk_put (cs := #[.int .i64 t317, .int .i64 0, .int .i64 0, .bool false, .bool false, .bool false, .int .i64 0]) ?_ 1 _ rfl; (with_reducible repeat (first | apply k1 | apply k2 | apply k3)); exact BK320.out) NB320_0.out (by simp)); have n2_ := am (KeepBut.trans (by repeat (first | (with_reducible first | exact HK.out | apply KeepBut.set_ | apply keep_drewN | apply keep_drew | apply keep_alloc | refine keep_far ?_ GW316.out _ | refine keep_far ?_ GW320.out _) | exact HK.out)) hk (.inl rfl)); have n3_ := am (hb); have n4_ := am (hi); clear BK316; clear BK320; clear HK; clear HB; clear HI0; have BK316 := n0_; have BK320 := n1_; have HK := n2_; have HB := n3_; have HI0 := n4_; clear n0_ n1_ n2_ n3_ n4_; (try clear hb); (try clear hb2); (try clear hk); (try clear hi); have hcz17_0 : w16.cell? ⟨gb320, 0, none⟩ = some (.int .i64 t317) := (blk_cell BK320.out 0).trans rfl; have hcz17_1 : w16.cell? ⟨gb320, 1, none⟩ = some (.int .i64 t321) := (blk_cell BK320.out 1).trans rfl; have hcz17_2 : w16.cell? ⟨gb320, 2, none⟩ = some (.int .i64 0) := (blk_cell BK320.out 2).trans rfl; have hcz17_3 : w16.cell? ⟨gb320, 3, none⟩ = some (.bool false) := (blk_cell BK320.out 3).trans rfl; have hcz17_4 : w16.cell? ⟨gb320, 4, none⟩ = some (.bool false) := (blk_cell BK320.out 4).trans rfl; have hcz17_5 : w16.cell? ⟨gb320, 5, none⟩ = some (.bool false) := (blk_cell BK320.out 5).trans rfl; have hcz17_6 : w16.cell? ⟨gb320, 6, none⟩ = some (.int .i64 0) := (blk_cell BK320.out 6).trans rfl; have hfz17_0 := blk_frozen BK320.out 0; have hfz17_1 := blk_frozen BK320.out 1; have hfz17_2 := blk_frozen BK320.out 2; have hfz17_3 := blk_frozen BK320.out 3; have hfz17_4 := blk_frozen BK320.out 4; have hfz17_5 := blk_frozen BK320.out 5; have hfz17_6 := blk_frozen BK320.out 6) | ((with_reducible refine gate_callee (f := 25) rfl ?_); refine gl_ (some 17) Tryd.func25 #[.pointer (some ⟨g, 0, none⟩)] ?_; (with_reducible refine (impl_taker_take.calls g t325 t326 A1 c1 l1 t327 t328 t329 w0 _ ?side1 ?side2 ?side3 ?side4 ?side5 A6.out ?sideT).mono ?_); (case sideT => exact HT.out); (case side1 => repeat (first | (with_reducible first | exact HI0.out | apply IsS61.alloc | apply IsS61.drewN | apply IsS61.drew | apply IsS61.set_0 | apply IsS61.set_1 | refine IsS61.far ?_ NB0_316.out _ | refine IsS61.far ?_ NB0_320.out _) | exact HI0.out)); (case side2 => repeat (first | (with_reducible first | exact HB.out | apply b1 | apply b2 | apply b3 | refine below_set ?_ (IsS61.ge HI0.out) | refine below_set ?_ GE316.out | refine below_set ?_ GE320.out) | exact HB.out)); (case side3 => exact Kd.C_keep (⟨#[]⟩ : ByteArray) HR1.out (by repeat (first | (with_reducible first | exact HK.out | apply KeepBut.set_ | apply keep_drewN | apply keep_drew | apply keep_alloc | refine keep_far ?_ GW316.out _ | refine keep_far ?_ GW320.out _) | exact HK.out)) hf1); (case side4 => exact HC1.out); (case side5 => exact hf1); rintro e w18 ⟨rfl, hi, hb, hk⟩; refine ⟨_, rfl, ?_⟩; have n0_ := am (KeepBut.blk hk (g' := gb316) (o := .cells #[.int .i64 0, .int .i64 0, .int .i64 0, .bool false, .bool false, .bool false, .int .i64 0] 45 (0, 0)) (by (with_reducible repeat (first | apply k1 | apply k2 | apply k3)); refine blk_far ?_ NB316_320.out _; (with_reducible repeat (first | apply k1 | apply k2 | apply k3)); exact BK316.out) NB316_0.out (by simp)); have n1_ := am (KeepBut.blk hk (g' := gb320) (o := .cells #[.int .i64 t317, .int .i64 t321, .int .i64 t324, .bool false, .bool false, .bool false, .int .i64 0] 45 (0, 0)) (by (with_reducible repeat (first | apply k1 | apply k2 | apply k3)); refine blk_put (cs := #[.int .i64 t317, .int .i64 t321, .int .i64 0, .bool false, .bool false, .bool false, .int .i64 0]) ?_ 2 _ rfl; (with_reducible repeat (first | apply k1 | apply k2 | apply k3)); exact BK320.out) NB320_0.out (by simp)); have n2_ := am (KeepBut.trans (by repeat (first | (with_reducible first | exact HK.out | apply KeepBut.set_ | apply keep_drewN | apply keep_drew | apply keep_alloc | refine keep_far ?_ GW316.out _ | refine keep_far ?_ GW320.out _) | exact HK.out)) hk (.inl rfl)); have n3_ := am (hb); have n4_ := am (hi); clear BK316; clear BK320; clear HK; clear HB; clear HI0; have BK316 := n0_; have BK320 := n1_; have HK := n2_; have HB := n3_; have HI0 := n4_; clear n0_ n1_ n2_ n3_ n4_; (try clear hb); (try clear hb2); (try clear hk); (try clear hi); have hcz19_0 : w18.cell? ⟨gb320, 0, none⟩ = some (.int .i64 t317) := (blk_cell BK320.out 0).trans rfl; have hcz19_1 : w18.cell? ⟨gb320, 1, none⟩ = some (.int .i64 t321) := (blk_cell BK320.out 1).trans rfl; have hcz19_2 : w18.cell? ⟨gb320, 2, none⟩ = some (.int .i64 t324) := (blk_cell BK320.out 2).trans rfl; have hcz19_3 : w18.cell? ⟨gb320, 3, none⟩ = some (.bool false) := (blk_cell BK320.out 3).trans rfl; have hcz19_4 : w18.cell? ⟨gb320, 4, none⟩ = some (.bool false) := (blk_cell BK320.out 4).trans rfl; have hcz19_5 : w18.cell? ⟨gb320, 5, none⟩ = some (.bool false) := (blk_cell BK320.out 5).trans rfl; have hcz19_6 : w18.cell? ⟨gb320, 6, none⟩ = some (.int .i64 0) := (blk_cell BK320.out 6).trans rfl; have hfz19_0 := blk_frozen BK320.out 0; have hfz19_1 := blk_frozen BK320.out 1; have hfz19_2 := blk_frozen BK320.out 2; have hfz19_3 := blk_frozen BK320.out 3; have hfz19_4 := blk_frozen BK320.out 4; have hfz19_5 := blk_frozen BK320.out 5; have hfz19_6 := blk_frozen BK320.out 6) | ((with_reducible refine gate_callee (f := 25) rfl ?_); refine gl_ (some 34) Tryd.func25 #[.pointer (some ⟨g, 0, none⟩)] ?_; (with_reducible refine (impl_taker_take.calls g t328 t329 A1 c1 l1 t330 t331 t332 w0 _ ?side1 ?side2 ?side3 ?side4 ?side5 A7.out ?sideT).mono ?_); (case sideT => exact HT.out); (case side1 => repeat (first | (with_reducible first | exact HI0.out | apply IsS61.alloc | apply IsS61.drewN | apply IsS61.drew | apply IsS61.set_0 | apply IsS61.set_1 | refine IsS61.far ?_ NB0_316.out _ | refine IsS61.far ?_ NB0_320.out _) | exact HI0.out)); (case side2 => repeat (first | (with_reducible first | exact HB.out | apply b1 | apply b2 | apply b3 | refine below_set ?_ (IsS61.ge HI0.out) | refine below_set ?_ GE316.out | refine below_set ?_ GE320.out) | exact HB.out)); (case side3 => exact Kd.C_keep (⟨#[]⟩ : ByteArray) HR1.out (by repeat (first | (with_reducible first | exact HK.out | apply KeepBut.set_ | apply keep_drewN | apply keep_drew | apply keep_alloc | refine keep_far ?_ GW316.out _ | refine keep_far ?_ GW320.out _) | exact HK.out)) hf1); (case side4 => exact HC1.out); (case side5 => exact hf1); rintro e w20 ⟨rfl, hi, hb, hk⟩; refine ⟨_, rfl, ?_⟩; have n0_ := am (KeepBut.blk hk (g' := gb316) (o := .cells #[.int .i64 0, .int .i64 0, .int .i64 0, .bool false, .bool false, .bool false, .int .i64 0] 45 (0, 0)) (by (with_reducible repeat (first | apply k1 | apply k2 | apply k3)); refine blk_far ?_ NB316_320.out _; (with_reducible repeat (first | apply k1 | apply k2 | apply k3)); refine blk_far ?_ NB316_320.out _; (with_reducible repeat (first | apply k1 | apply k2 | apply k3)); refine blk_far ?_ NB316_320.out _; (with_reducible repeat (first | apply k1 | apply k2 | apply k3)); exact BK316.out) NB316_0.out (by simp)); have n1_ := am (KeepBut.blk hk (g' := gb320) (o := .cells #[.int .i64 t317, .int .i64 t321, .int .i64 t324, .bool (decide ((Go.bits .and .i64 t327 1) > 0)), .bool (decide ((Go.bits .and .i64 t327 2) > 0)), .bool (decide ((Go.bits .and .i64 t327 4) > 0)), .int .i64 0] 45 (0, 0)) (by (with_reducible repeat (first | apply k1 | apply k2 | apply k3)); refine blk_put (cs := #[.int .i64 t317, .int .i64 t321, .int .i64 t324, .bool (decide ((Go.bits .and .i64 t327 1) > 0)), .bool (decide ((Go.bits .and .i64 t327 2) > 0)), .bool false, .int .i64 0]) ?_ 5 _ rfl; (with_reducible repeat (first | apply k1 | apply k2 | apply k3)); refine blk_put (cs := #[.int .i64 t317, .int .i64 t321, .int .i64 t324, .bool (decide ((Go.bits .and .i64 t327 1) > 0)), .bool false, .bool false, .int .i64 0]) ?_ 4 _ rfl; (with_reducible repeat (first | apply k1 | apply k2 | apply k3)); refine blk_put (cs := #[.int .i64 t317, .int .i64 t321, .int .i64 t324, .bool false, .bool false, .bool false, .int .i64 0]) ?_ 3 _ rfl; (with_reducible repeat (first | apply k1 | apply k2 | apply k3)); exact BK320.out) NB320_0.out (by simp)); have n2_ := am (KeepBut.trans (by repeat (first | (with_reducible first | exact HK.out | apply KeepBut.set_ | apply keep_drewN | apply keep_drew | apply keep_alloc | refine keep_far ?_ GW316.out _ | refine keep_far ?_ GW320.out _) | exact HK.out)) hk (.inl rfl)); have n3_ := am (hb); have n4_ := am (hi); clear BK316; clear BK320; clear HK; clear HB; clear HI0; have BK316 := n0_; have BK320 := n1_; have HK := n2_; have HB := n3_; have HI0 := n4_; clear n0_ n1_ n2_ n3_ n4_; (try clear hb); (try clear hb2); (try clear hk); (try clear hi); have hcz21_0 : w20.cell? ⟨gb320, 0, none⟩ = some (.int .i64 t317) := (blk_cell BK320.out 0).trans rfl; have hcz21_1 : w20.cell? ⟨gb320, 1, none⟩ = some (.int .i64 t321) := (blk_cell BK320.out 1).trans rfl; have hcz21_2 : w20.cell? ⟨gb320, 2, none⟩ = some (.int .i64 t324) := (blk_cell BK320.out 2).trans rfl; have hcz21_3 : w20.cell? ⟨gb320, 3, none⟩ = some (.bool (decide ((Go.bits .and .i64 t327 1) > 0))) := (blk_cell BK320.out 3).trans rfl; have hcz21_4 : w20.cell? ⟨gb320, 4, none⟩ = some (.bool (decide ((Go.bits .and .i64 t327 2) > 0))) := (blk_cell BK320.out 4).trans rfl; have hcz21_5 : w20.cell? ⟨gb320, 5, none⟩ = some (.bool (decide ((Go.bits .and .i64 t327 4) > 0))) := (blk_cell BK320.out 5).trans rfl; have hcz21_6 : w20.cell? ⟨gb320, 6, none⟩ = some (.int .i64 0) := (blk_cell BK320.out 6).trans rfl; have hfz21_0 := blk_frozen BK320.out 0; have hfz21_1 := blk_frozen BK320.out 1; have hfz21_2 := blk_frozen BK320.out 2; have hfz21_3 := blk_frozen BK320.out 3; have hfz21_4 := blk_frozen BK320.out 4; have hfz21_5 := blk_frozen BK320.out 5; have hfz21_6 := blk_frozen BK320.out 6; have hnb22 := NB316_0.out; have hnc22 := NB0_316.out; have hcz23_0 : w20.cell? ⟨gb316, 0, none⟩ = some (.int .i64 0) := (blk_cell BK316.out 0).trans rfl; have hcz23_1 : w20.cell? ⟨gb316, 1, none⟩ = some (.int .i64 0) := (blk_cell BK316.out 1).trans rfl; have hcz23_2 : w20.cell? ⟨gb316, 2, none⟩ = some (.int .i64 0) := (blk_cell BK316.out 2).trans rfl; have hcz23_3 : w20.cell? ⟨gb316, 3, none⟩ = some (.bool false) := (blk_cell BK316.out 3).trans rfl; have hcz23_4 : w20.cell? ⟨gb316, 4, none⟩ = some (.bool false) := (blk_cell BK316.out 4).trans rfl; have hcz23_5 : w20.cell? ⟨gb316, 5, none⟩ = some (.bool false) := (blk_cell BK316.out 5).trans rfl; have hcz23_6 : w20.cell? ⟨gb316, 6, none⟩ = some (.int .i64 0) := (blk_cell BK316.out 6).trans rfl; have hfz23_0 := blk_frozen BK316.out 0; have hfz23_1 := blk_frozen BK316.out 1; have hfz23_2 := blk_frozen BK316.out 2; have hfz23_3 := blk_frozen BK316.out 3; have hfz23_4 := blk_frozen BK316.out 4; have hfz23_5 := blk_frozen BK316.out 5; have hfz23_6 := blk_frozen BK316.out 6))
 refine bodyPost_ret (results_cell_row rfl _ _ gb316 45 #[.int .i64 t317, .int .i64 t321, .int .i64 t324, .bool (decide ((Go.bits .and .i64 t327 1) > 0)), .bool (decide ((Go.bits .and .i64 t327 2) > 0)), .bool (decide ((Go.bits .and .i64 t327 4) > 0)), .int .i64 t330] (0, 0) _ rfl (by (with_reducible repeat (first | apply k1 | apply k2 | apply k3)); refine blk_put (cs := #[.int .i64 t317, .int .i64 t321, .int .i64 t324, .bool (decide ((Go.bits .and .i64 t327 1) > 0)), .bool (decide ((Go.bits .and .i64 t327 2) > 0)), .bool (decide ((Go.bits .and .i64 t327 4) > 0)), .int .i64 0]) ?_ 6 _ rfl; (with_reducible repeat (first | apply k1 | apply k2 | apply k3)); refine blk_put (cs := #[.int .i64 t317, .int .i64 t321, .int .i64 t324, .bool (decide ((Go.bits .and .i64 t327 1) > 0)), .bool (decide ((Go.bits .and .i64 t327 2) > 0)), .bool false, .int .i64 0]) ?_ 5 _ rfl; (with_reducible repeat (first | apply k1 | apply k2 | apply k3)); refine blk_put (cs := #[.int .i64 t317, .int .i64 t321, .int .i64 t324, .bool (decide ((Go.bits .and .i64 t327 1) > 0)), .bool false, .bool false, .int .i64 0]) ?_ 4 _ rfl; (with_reducible repeat (first | apply k1 | apply k2 | apply k3)); refine blk_put (cs := #[.int .i64 t317, .int .i64 t321, .int .i64 t324, .bool false, .bool false, .bool false, .int .i64 0]) ?_ 3 _ rfl; (with_reducible repeat (first | apply k1 | apply k2 | apply k3)); refine blk_put (cs := #[.int .i64 t317, .int .i64 t321, .int .i64 0, .bool false, .bool false, .bool false, .int .i64 0]) ?_ 2 _ rfl; (with_reducible repeat (first | apply k1 | apply k2 | apply k3)); refine blk_put (cs := #[.int .i64 t317, .int .i64 0, .int .i64 0, .bool false, .bool false, .bool false, .int .i64 0]) ?_ 1 _ rfl; (with_reducible repeat (first | apply k1 | apply k2 | apply k3)); refine blk_put (cs := #[.int .i64 0, .int .i64 0, .int .i64 0, .bool false, .bool false, .bool false, .int .i64 0]) ?_ 0 _ rfl; (with_reducible repeat (first | apply k1 | apply k2 | apply k3)); refine blk_far ?_ NB316_320.out _; (with_reducible repeat (first | apply k1 | apply k2 | apply k3)); exact BK316.out) Tryd.underlying45 rfl (by kernel_rfl)) rfl ?_
 exact ⟨by first | rfl | (simp [errW_none, errW_some] <;> rfl) | (simp [*, errW_none, errW_some] <;> rfl), by repeat (first | (with_reducible first | exact HI0.out | apply IsS61.alloc | apply IsS61.drewN | apply IsS61.drew | apply IsS61.set_0 | apply IsS61.set_1 | refine IsS61.far ?_ NB0_316.out _ | refine IsS61.far ?_ NB0_320.out _) | exact HI0.out), by repeat (first | (with_reducible first | exact HB.out | apply b1 | apply b2 | apply b3 | refine below_set ?_ (IsS61.ge HI0.out) | refine below_set ?_ GE316.out | refine below_set ?_ GE320.out) | exact HB.out), by repeat (first | (with_reducible first | exact HK.out | apply KeepBut.set_ | apply keep_drewN | apply keep_drew | apply keep_alloc | refine keep_far ?_ GW316.out _ | refine keep_far ?_ GW320.out _) | exact HK.out)⟩

end Go.Proofs.YtalopdcephohgaaDoor.SB
