/- Contracts of Go functions that laws of this seat reach: each Lean function answers as its Go function does. No condition. Written by wip/tools/inj.py, over the kit's print. -/
import Derived.Shelf.Strings.Trim
import Derived.Shelf.Strings.Builder1
import Derived.Test.YtepeanpoicefdaaDoorPBx0
import Derived.Test.YtepeanpoicefdaaDoorPBx11
import Derived.Test.YtepeanpoicefdaaDoorPBx23
namespace Go.Proofs.YtepeanpoicefdaaDoor.PB
open Go.RowKit Go.Proofs.YtepeanpoicefdaaDoorW.PrintWords Go.Proofs.YtepeanpoicefdaaDoorW.PrintLast Go.Proofs.YtepeanpoicefdaaDoorW.PrintMore
attribute [local go_sem] max2_int min2_int max_two min_two max_three min_three max_four min_four   -- for this text's walks alone
set_option linter.unusedVariables false
set_option linter.unusedSimpArgs false

-- NOT PRINTED: function 103 (bytealg_IndexString)

-- NOT PRINTED: function 98 (strings_IndexRune)

-- NOT PRINTED: function 92 (strings_ContainsRune)

-- NOT PRINTED: function 81 (strings_trimRightUnicode)

/-! ### strings_TrimRight: function 58 -/
def lays162_ren : Go.Shelf.Ren := ⟨fun | 162 => 58 | 232 => 78 | 227 => 79 | 234 => 80 | 236 => 81 | 228 => 90 | 271 => 91 | 151 => 92 | 120 => 96 | 197 => 97 | 152 => 98 | 260 => 99 | 137 => 100 | 119 => 101 | 224 => 102 | 225 => 103 | 217 => 104 | 266 => 105 | n => n, fun | 9 => 9 | 4 => 4 | 3 => 3 | 5 => 5 | 117 => 100 | 116 => 99 | 0 => 0 | 124 => 103 | 21 => 21 | 105 => 120 | 46 => 93 | 119 => 131 | 139 => 134 | 138 => 133 | n => n, fun | 3 => 0 | 4 => 1 | n => n⟩
theorem lays162_own : Go.Proofs.Lays.n162 Tryd.prog lays162_ren := {
 mixed := by kernel_rfl
 f119 := Tryd.func101.trans (congrArg some (by kernel_rfl))
 f120 := Tryd.func96.trans (congrArg some (by kernel_rfl))
 f137 := Tryd.func100.trans (congrArg some (by kernel_rfl))
 f151 := Tryd.func92.trans (congrArg some (by kernel_rfl))
 f152 := Tryd.func98.trans (congrArg some (by kernel_rfl))
 f162 := Tryd.func58.trans (congrArg some (by kernel_rfl))
 f197 := Tryd.func97.trans (congrArg some (by kernel_rfl))
 f217 := Tryd.func104.trans (congrArg some (by kernel_rfl))
 f224 := Tryd.func102.trans (congrArg some (by kernel_rfl))
 f225 := Tryd.func103.trans (congrArg some (by kernel_rfl))
 f227 := Tryd.func79.trans (congrArg some (by kernel_rfl))
 f228 := Tryd.func90.trans (congrArg some (by kernel_rfl))
 f232 := Tryd.func78.trans (congrArg some (by kernel_rfl))
 f234 := Tryd.func80.trans (congrArg some (by kernel_rfl))
 f236 := Tryd.func81.trans (congrArg some (by kernel_rfl))
 f260 := Tryd.func99.trans (congrArg some (by kernel_rfl))
 f266 := Tryd.func105.trans (congrArg some (by kernel_rfl))
 f271 := Tryd.func91.trans (congrArg some (by kernel_rfl))
 t0 := Tryd.underlying0
 a0 := Tryd.isAgg0
 z0 := Tryd.sizeOf0
 v0 := Tryd.zeroValue0
 t3 := Tryd.underlying3
 a3 := Tryd.isAgg3
 z3 := Tryd.sizeOf3
 v3 := Tryd.zeroValue3
 t4 := Tryd.underlying4
 a4 := Tryd.isAgg4
 z4 := Tryd.sizeOf4
 v4 := Tryd.zeroValue4
 t5 := Tryd.underlying5
 a5 := Tryd.isAgg5
 z5 := Tryd.sizeOf5
 v5 := Tryd.zeroValue5
 t9 := Tryd.underlying9
 a9 := Tryd.isAgg9
 z9 := Tryd.sizeOf9
 v9 := Tryd.zeroValue9
 t21 := Tryd.underlying21
 a21 := Tryd.isAgg21
 z21 := Tryd.sizeOf21
 v21 := Tryd.zeroValue21
 t46 := Tryd.underlying93
 a46 := Tryd.isAgg93
 z46 := Tryd.sizeOf93
 v46 := Tryd.zeroValue93
 t105 := Tryd.underlying120
 a105 := Tryd.isAgg120
 z105 := Tryd.sizeOf120
 v105 := Tryd.zeroValue120
 t116 := Tryd.underlying99
 a116 := Tryd.isAgg99
 z116 := Tryd.sizeOf99
 t117 := Tryd.underlying100
 a117 := Tryd.isAgg100
 z117 := Tryd.sizeOf100
 v117 := Tryd.zeroValue100
 t119 := Tryd.underlying131
 a119 := Tryd.isAgg131
 z119 := Tryd.sizeOf131
 t124 := Tryd.underlying103
 a124 := Tryd.isAgg103
 z124 := Tryd.sizeOf103
 v124 := Tryd.zeroValue103
 t138 := Tryd.underlying133
 a138 := Tryd.isAgg133
 z138 := Tryd.sizeOf133
 v138 := Tryd.zeroValue133
 t139 := Tryd.underlying134
 a139 := Tryd.isAgg134
 z139 := Tryd.sizeOf134
 v139 := Tryd.zeroValue134
 g3 := by kernel_rfl
 g4 := by kernel_rfl }
def strings_TrimRight.f (a0 : ByteArray) (a1 : ByteArray) : Option (ByteArray) := if a0.size ≤ 9223372036854775807 ∧ a1 = (⟨#[32]⟩ : ByteArray) then some ⟨(Lib.trimRightB a0.data.toList 32).toArray⟩ else none
theorem strings_TrimRight.calls (a0 : ByteArray) (a1 : ByteArray) (r : ByteArray) (w : World) (h : strings_TrimRight.f a0 a1 = some r) :
  Calls Tryd.prog 58 #[.string a0, .string a1] w fun e w' => e = .returned (.string r) ∧ Drawn0 w w' := by
 unfold strings_TrimRight.f at h
 by_cases c : a0.size ≤ 9223372036854775807 ∧ a1 = (⟨#[32]⟩ : ByteArray)
 ·rw [if_pos c] at h
  obtain rfl := Option.some.inj h
  obtain ⟨c1, rfl⟩ := c
  refine (Any.strings_TrimRight_one lays162_own a0 32 (by decide) w c1).mono ?_
  rintro e w' ⟨rfl, rfl⟩
  exact ⟨rfl, Drawn0.refl _⟩
 ·rw [if_neg c] at h; cases h

/-! ### impl_RowText: function 23 -/
theorem bld_below {T e : TypeId} {B b : Nat} {bs : List Value} {w w' : World} (h : Lib.IsBuilder T e B b bs w) (hb : Below w.heap.size w w') : Lib.IsBuilder T e B b bs w' := by
 have one : ∀ p, Lib.BuilderAt T e B b p bs w → Lib.BuilderAt T e B b p bs w' := by
  intro p h
  have hl := Lib.BuilderAt.lt h
  obtain ⟨hB, v, hc, ho, hn⟩ := h
  exact ⟨hB, v, (hb.block b hl).trans hc, own_move ho (fun k hk => hb.block k (own_lt ho k hk)), hn⟩
 rcases h with h | h
 ·exact .inl (one _ h)
 ·exact .inr (one _ h)
theorem bld_new {B g : Nat} {w : World} (hg : B ≤ g) (h : w.heap[g]? = some (.cells #[.pointer none, .slice none 0 0] 55 (0, 0))) : Lib.IsBuilder 55 5 B g (Lib.byteCells []) w :=
 .inl ⟨hg, .slice none 0 0, h, ⟨rfl, .inl ⟨rfl, rfl⟩⟩, by simp [Value.ownBlock]⟩
def lays166_ren : Go.Shelf.Ren := ⟨fun | 166 => 31 | 240 => 65 | 276 => 85 | n => n, fun | 0 => 0 | 3 => 3 | 4 => 4 | 5 => 5 | 9 => 9 | 20 => 20 | 72 => 55 | 70 => 53 | 37 => 33 | 75 => 57 | 76 => 58 | 80 => 60 | 164 => 110 | n => n, fun | n => n⟩
theorem lays166_own : Go.Proofs.Lays.n166 Tryd.prog lays166_ren := {
 mixed := by kernel_rfl
 f166 := Tryd.func31.trans (congrArg some (by kernel_rfl))
 f240 := Tryd.func65.trans (congrArg some (by kernel_rfl))
 f276 := Tryd.func85.trans (congrArg some (by kernel_rfl))
 t0 := Tryd.underlying0
 a0 := Tryd.isAgg0
 z0 := Tryd.sizeOf0
 v0 := Tryd.zeroValue0
 t3 := Tryd.underlying3
 a3 := Tryd.isAgg3
 z3 := Tryd.sizeOf3
 v3 := Tryd.zeroValue3
 t4 := Tryd.underlying4
 a4 := Tryd.isAgg4
 z4 := Tryd.sizeOf4
 v4 := Tryd.zeroValue4
 t9 := Tryd.underlying9
 a9 := Tryd.isAgg9
 z9 := Tryd.sizeOf9
 v9 := Tryd.zeroValue9
 t20 := Tryd.underlying20
 a20 := Tryd.isAgg20
 z20 := Tryd.sizeOf20
 v20 := Tryd.zeroValue20
 t37 := Tryd.underlying33
 a37 := Tryd.isAgg33
 z37 := Tryd.sizeOf33
 v37 := Tryd.zeroValue33
 t70 := Tryd.underlying53
 a70 := Tryd.isAgg53
 z70 := Tryd.sizeOf53
 v70 := Tryd.zeroValue53
 t72 := Tryd.underlying55
 a72 := Tryd.isAgg55
 z72 := Tryd.sizeOf55
 v72 := Tryd.zeroValue55
 t75 := Tryd.underlying57
 a75 := Tryd.isAgg57
 z75 := Tryd.sizeOf57
 v75 := Tryd.zeroValue57
 t164 := Tryd.underlying110
 a164 := Tryd.isAgg110
 z164 := Tryd.sizeOf110
 v164 := Tryd.zeroValue110 }
theorem extra166_own : Builder.Extra Tryd.prog lays166_ren := {
 sizeBuilder := by kernel_rfl
 liesBuilder := by kernel_rfl
 t5 := Tryd.underlying5
 a5 := Tryd.isAgg5
 z5 := Tryd.sizeOf5
 v5 := Tryd.zeroValue5
 infoByte := by kernel_rfl
 cellsByte := by kernel_rfl
 sizeByte := by kernel_rfl
 neB5 := by decide }
theorem bld_write (B b : Nat) (bs : List UInt8) (s : ByteArray) (w : World) (h : Lib.IsBuilder 55 5 B b (Lib.byteCells bs) w) (hlen : bs.length + s.size ≤ 140737488355328) (hB : B ≤ w.heap.size) :
  Calls Tryd.prog 31 #[.pointer (some ⟨b, 0, none⟩), .string s] w fun e w' => e = .returned (.tuple #[.int .i64 s.size, .nilIface]) ∧ Lib.IsBuilder 55 5 B b (Lib.byteCells (bs ++ s.data.toList)) w' ∧ Below B w w' := by
 refine (Any.Builder_WriteString lays166_own extra166_own B b (Lib.byteCells bs) s w h (by rw [Lib.byteCells_length]; exact hlen) hB).mono ?_
 rintro e w' ⟨rfl, hu, hb⟩
 refine ⟨rfl, .inr ?_, hb⟩
 have e : Lib.byteCells (bs ++ s.data.toList) = Lib.byteCells bs ++ Lib.strCells s := by simp [Lib.byteCells, Lib.strCells]
 rw [e]
 exact hu
def impl_RowText.l0 : Nat → List (S48) → List UInt8 → Int → Option (ByteArray)
 | 0, _, _, _ => none
 | k + 1, l, bs, i => if i < (l.length : Int) then (if 0 ≤ i then (if (rd_T48 l i).f2 = 2 then (impl_RowText.l0 k l bs (wrap64 (i + 1))) else ((impl_Put.f k ((rd_T48 l i).f0)).bind fun t => (if bs.length + t.size ≤ 140737488355328 then (impl_RowText.l0 k l (bs ++ t.data.toList) (wrap64 (i + 1))) else none))) else none) else (strings_TrimRight.f ⟨bs.toArray⟩ (⟨#[32]⟩ : ByteArray))
def impl_RowText.f (k : Nat) (l0 : List (S48)) : Option (ByteArray) := (impl_RowOk.f k l0).bind fun t => if t = true then (impl_RowText.l0 k l0 [] 0) else some (⟨#[]⟩ : ByteArray)
theorem impl_RowText.mono_l : ∀ k y0 y1 y2, LeO (impl_RowText.l0 k y0 y1 y2) (impl_RowText.l0 (k + 1) y0 y1 y2)
 | 0, _, _, _ => fun r h => by simp [impl_RowText.l0] at h
 | k + 1, y0, y1, y2 => by
  have ih := impl_RowText.mono_l k
  unfold impl_RowText.l0
  exact LeO.ite (LeO.ite (LeO.ite (ih _ _ _) (LeO.bind (impl_Put.mono _ _) (fun _ => LeO.ite (ih _ _ _) (LeO.refl _)))) (LeO.refl _)) (LeO.refl _)
theorem impl_RowText.mono : ∀ a0 k, LeO (impl_RowText.f k a0) (impl_RowText.f (k + 1) a0) := by
 intro a0 k
 unfold impl_RowText.f
 exact LeO.bind (impl_RowOk.mono _ _) (fun _ => LeO.ite (impl_RowText.mono_l _ _ _ _) (LeO.refl _))
set_option maxHeartbeats 8000000 in
set_option maxRecDepth 100000 in
theorem impl_RowText.calls (k : Nat) (A0 : Option Addr) (c0 : Nat) (l0 : List (S48)) (r : ByteArray) (w : World) (hr0 : Kd.C k48 w A0 l0.length l0) (hc0 : l0.length ≤ c0) (h : impl_RowText.f k l0 = some r) :
  Calls Tryd.prog 23 #[.slice A0 l0.length c0] w fun e w' => e = .returned (.string r) ∧ Below w.heap.size w w' := by
 have hu48 := Tryd.underlying48
 have hu25 := Tryd.underlying25
 have hu55 := Tryd.underlying55
 have HR0 := am hr0
 have HC0 := am hc0
 have HB := am (Below.refl w.heap.size w)
 obtain ⟨t0, A10, H⟩ := Option.bind_eq_some_iff.mp h
 have A1 := am A10
 clear hr0 hc0 h A10
 by_cases c1 : t0 = true
 ·subst c1
  rw [if_pos rfl] at H
  have H' := am H
  clear H
  go_enter Tryd.func23, Tryd.ntmps23
  go_wp2_with (first | ((with_reducible refine gate_callee (f := 21) rfl ?_); refine goesL_ (some 7) rfl rfl Tryd.func21 (by kernel_rfl) rfl #[.slice A0 l0.length c0] rfl (by (try simp only [List.map_toArray, List.map_cons, List.map_nil]); first | done | rfl) ?_; (with_reducible refine (impl_RowOk.calls k A0 c0 l0 true _ (Kd.C_below HR0.out HB.out) HC0.out A1.out).mono ?_); rintro e w2 ⟨rfl, hb⟩; refine ⟨_, rfl, ?_⟩; have n0_ := am (below_step HB.out hb); clear HB hb; have HB := n0_; clear n0_) | ((with_reducible refine gate_dst (N := 10) rfl ?_); refine box_event ?hg (N := 10) ?hd (cs := #[.pointer none, .slice none 0 0]) (t := 55) ?hr ?_; (case hd => rfl); (case hg => rfl); (case hr => first | (go_simp; done) | (go_simp; rfl)); intro g1 hg w3 hbox hb; have n0_ := am (below_step (rb HB) hb); have GE1 := am ((by rw [hg]; exact below_size (rb HB)) : w.heap.size ≤ g1); have HU := am (bld_new GE1.out hbox); clear HB; have HB := n0_; clear n0_ hb hbox hg))
  go_loopg [13] k (fun kq v13 w' => ∃ (x13 : Int) (x3 : List UInt8), v13 = .int .i64 x13 ∧ Aside0 (impl_RowText.l0 kq l0 x3 x13 = some r) ∧ Aside0 (kq ≤ k) ∧ Aside0 (Lib.IsBuilder 55 5 w.heap.size g1 (Lib.byteCells x3) w') ∧ Aside0 (Below w.heap.size w w'))
  case atStart => exact ⟨0, [], rfl, H', ⟨Nat.le_refl _⟩, ⟨bld_below HU.out (by repeat (first | exact Below.refl _ _ | apply b1 | apply b2 | apply b3))⟩, ⟨(rb HB)⟩⟩
  case round =>
   clear H' HU HB
   obtain ⟨x13, x3, rfl, HA, HK1, HU, HB⟩ := hrel
   cases gk with
   | zero => exact absurd HA.out (by simp [impl_RowText.l0])
   | succ k1 =>
    have H := HA.out
    clear HA
    simp only [impl_RowText.l0] at H
    by_cases c2 : x13 < (l0.length : Int)
    ·rw [if_pos c2] at H
     have c2b0 : decide (x13 < (l0.length : Int)) = true := decide_eq_true c2
     refine em_ (p := 0 ≤ x13) (fun c3 => ?g2p) (fun c3 => ?g2n)
     case' g2p =>
      rw [if_pos c3] at H
      have c3b0 : decide (0 ≤ x13) = true := decide_eq_true c3
      have HR := am (Below.refl wr.heap.size wr)
      have p1 : 0 ≤ (x13 : Int) := c3
      have q1 : x13 < (l0.length : Int) := c2
      obtain ⟨ad1, e1, hx_0, hx_1, hx_2, hx_3, hx_4, hx_5, hx_6⟩ := at_T48 HR0.out x13 p1 q1
      cases e1
      replace hx_0 := mv HB.out hx_0
      replace hx_1 := mv HB.out hx_1
      replace hx_2 := mv HB.out hx_2
      replace hx_3 := mv HB.out hx_3
      replace hx_4 := mv HB.out hx_4
      replace hx_5 := mv HB.out hx_5
      replace hx_6 := mv HB.out hx_6
      replace p1 := eq_true p1
      replace q1 := eq_true q1
      clear c2 c3
      refine em_ (p := (rd_T48 l0 x13).f2 = 2) (fun c4 => ?g1p) (fun c4 => ?g1n)
      case' g1p =>
       rw [if_pos c4] at H
       have c4b0 : ((rd_T48 l0 x13).f2 == 2) = true := beq_iff_eq.mpr c4
       have c4b1 : ((rd_T48 l0 x13).f2 != 2) = false := bne_eq_false_iff_eq.mpr c4
       clear c4
       have H' := am H
       clear H
       have lf3_ := trivial
      case' g1n =>
       rw [if_neg c4] at H
       have c4b0 : ((rd_T48 l0 x13).f2 == 2) = false := beq_eq_false_iff_ne.mpr c4
       have c4b1 : ((rd_T48 l0 x13).f2 != 2) = true := bne_iff_ne.mpr c4
       clear c4
       obtain ⟨t, A20, H⟩ := Option.bind_eq_some_iff.mp H
       have A2 := am A20
       clear A20
       refine em_ (p := x3.length + t.size ≤ 140737488355328) (fun c5 => ?g0p) (fun c5 => ?g0n)
       case' g0p =>
        rw [if_pos c5] at H
        have C4 := am c5
        have H' := am H
        clear H c5
        have lf4_ := trivial
       case g0n =>
        rw [if_neg c5] at H
        exact absurd H (by simp)
     case g2n =>
      rw [if_neg c3] at H
      exact absurd H (by simp)
     all_goals
      go_wp2_with (first | ((with_reducible refine gate_dst (N := 5) rfl ?_); refine box_event ?hg (N := 5) ?hd (cs := #[.int .i64 0, .int .i64 0, .int .i64 0, .bool false, .bool false, .bool false, .int .i64 0]) (t := 48) ?hr ?_; (case hd => rfl); (case hg => rfl); (case hr => first | (go_simp; done) | (go_simp; rfl)); intro g2 hg w9 hbox hb; have n0_ := am (below_step (rb HR) hb); have BK2 := am hbox; have GE2 := am ((by rw [hg]; exact below_size (rb HR)) : wr.heap.size ≤ g2); clear HR; have HR := n0_; clear n0_ hb hbox hg; have hcz_0 : w9.cell? ⟨g2, 0, none⟩ = some (.int .i64 0) := (blk_cell BK2.out 0).trans rfl; have hfz_0 := blk_frozen BK2.out 0; have hcz_1 : w9.cell? ⟨g2, 1, none⟩ = some (.int .i64 0) := (blk_cell BK2.out 1).trans rfl; have hfz_1 := blk_frozen BK2.out 1; have hcz_2 : w9.cell? ⟨g2, 2, none⟩ = some (.int .i64 0) := (blk_cell BK2.out 2).trans rfl; have hfz_2 := blk_frozen BK2.out 2; have hcz_3 : w9.cell? ⟨g2, 3, none⟩ = some (.bool false) := (blk_cell BK2.out 3).trans rfl; have hfz_3 := blk_frozen BK2.out 3; have hcz_4 : w9.cell? ⟨g2, 4, none⟩ = some (.bool false) := (blk_cell BK2.out 4).trans rfl; have hfz_4 := blk_frozen BK2.out 4; have hcz_5 : w9.cell? ⟨g2, 5, none⟩ = some (.bool false) := (blk_cell BK2.out 5).trans rfl; have hfz_5 := blk_frozen BK2.out 5; have hcz_6 : w9.cell? ⟨g2, 6, none⟩ = some (.int .i64 0) := (blk_cell BK2.out 6).trans rfl; have hfz_6 := blk_frozen BK2.out 6) | ((with_reducible refine gate_callee (f := 31) rfl ?_); refine goesL_ (some 24) rfl rfl Tryd.func31 (by kernel_rfl) rfl #[.pointer (some ⟨g1, 0, none⟩), .string t] rfl (by (try simp only [List.map_toArray, List.map_cons, List.map_nil]); first | done | rfl) ?_; refine (bld_write w.heap.size g1 x3 t _ (bld_below HU.out (rb HR)) C4.out (Nat.le_trans (below_size HB.out) (below_size (rb HR)))).mono ?_; rintro e w11 ⟨rfl, hu, hb⟩; refine ⟨_, rfl, ?_⟩; have n0_ := am hu; have n1_ := am (below_weaken (below_step HB.out (rb HR)) (Nat.le_refl _) hb); clear HU HB HR hu hb; have HU := n0_; have HB := n1_; clear n0_ n1_) | ((with_reducible refine gate_callee (f := 57) rfl ?_); refine goesL_ (some 23) rfl rfl Tryd.func57 (by kernel_rfl) rfl #[.int .i64 ((rd_T48 l0 x13).f0)] rfl (by (try simp only [List.map_toArray, List.map_cons, List.map_nil]); first | done | rfl) ?_; (with_reducible refine (impl_Put.calls k1 ((rd_T48 l0 x13).f0) t _ A2.out).mono ?_); rintro e w10 ⟨rfl, hb⟩; refine ⟨_, rfl, ?_⟩; have n0_ := am (below_step (rb1 HR GE2) hb); clear HR hb; have HR := n0_; clear n0_))
      go_roundg k1
      case measure => have := HK1.out; omega
      first
      | (
        have q_ := lf3_
        case rel => exact ⟨(wrap64 (x13 + 1)), x3, (by first | rfl | (simp; done) | (simp [*]; done)), H', ⟨by have := HK1.out; omega⟩, ⟨bld_below HU.out (rb1 HR GE2)⟩, ⟨below_step HB.out (rb1 HR GE2)⟩⟩
        )
      | (
        have q_ := lf4_
        case rel => exact ⟨(wrap64 (x13 + 1)), x3 ++ t.data.toList, (by first | rfl | (simp; done) | (simp [*]; done)), H', ⟨by have := HK1.out; omega⟩, HU, HB⟩
        )
    ·rw [if_neg c2] at H
     have c2b0 : decide (x13 < (l0.length : Int)) = false := decide_eq_false c2
     clear c2
     have A3 := am H
     clear H
     go_wp2_with (first | ((with_reducible refine gate_callee (f := 32) rfl ?_); refine goesL_ (some 27) rfl rfl Tryd.func32 (by kernel_rfl) rfl #[.pointer (some ⟨g1, 0, none⟩)] rfl (by (try simp only [List.map_toArray, List.map_cons, List.map_nil]); first | done | rfl) ?_; refine (Tryd.Builder_String_any w.heap.size g1 x3 _ HU.out (below_size HB.out)).mono ?_; rintro e w6 ⟨rfl, hb⟩; refine ⟨_, rfl, ?_⟩; have n1_ := am (below_weaken HB.out (Nat.le_refl _) hb); clear HU HB hb; have HB := n1_; clear n1_) | ((with_reducible refine gate_callee (f := 58) rfl ?_); refine goesL_ (some 28) rfl rfl Tryd.func58 (by kernel_rfl) rfl #[.string ⟨x3.toArray⟩, .string (⟨#[32]⟩ : ByteArray)] rfl (by (try simp only [List.map_toArray, List.map_cons, List.map_nil]); first | done | rfl) ?_; (with_reducible refine (strings_TrimRight.calls ⟨x3.toArray⟩ (⟨#[32]⟩ : ByteArray) r _ A3.out).mono ?_); rintro e w' ⟨rfl, ⟨nd, rfl⟩⟩; refine ⟨_, rfl, ?_⟩))
     go_ret
     exact ⟨rfl, (rb HB)⟩
 ·replace c1 := Bool.eq_false_iff.mpr c1
  subst c1
  rw [if_neg (by decide)] at H
  obtain rfl := Option.some.inj H
  go_enter Tryd.func23, Tryd.ntmps23
  go_wp2_with (first | ((with_reducible refine gate_callee (f := 21) rfl ?_); refine goesL_ (some 7) rfl rfl Tryd.func21 (by kernel_rfl) rfl #[.slice A0 l0.length c0] rfl (by (try simp only [List.map_toArray, List.map_cons, List.map_nil]); first | done | rfl) ?_; (with_reducible refine (impl_RowOk.calls k A0 c0 l0 false _ (Kd.C_below HR0.out HB.out) HC0.out A1.out).mono ?_); rintro e w2 ⟨rfl, hb⟩; refine ⟨_, rfl, ?_⟩; have n0_ := am (below_step HB.out hb); clear HB hb; have HB := n0_; clear n0_))
  go_ret
  exact ⟨rfl, (rb HB)⟩

end Go.Proofs.YtepeanpoicefdaaDoor.PB
