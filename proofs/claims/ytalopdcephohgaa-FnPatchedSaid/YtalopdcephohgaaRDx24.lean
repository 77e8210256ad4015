/- Contracts of Go functions that laws of this seat reach: each Lean function answers as its Go function does. No condition. Written by wip/tools/inj.py, over the kit's print. -/
import Derived.Test.YtalopdcephohgaaRDx0
namespace Go.Proofs.Ytalopdcephohgaa.RD
open Go.RowKit Go.Proofs.YtalopdcephohgaaW.PrintWords Go.Proofs.YtalopdcephohgaaW.PrintLast Go.Proofs.YtalopdcephohgaaW.PrintMore
attribute [local go_sem] max2_int min2_int max_two min_two max_three min_three max_four min_four   -- for this text's walks alone
set_option linter.unusedVariables false
set_option linter.unusedSimpArgs false

/-- A state of type 118 at block g of W; what its slices lead to came in by w0. -/
def IsS118 (w0 W : World) (g : Nat) (f0 : List Int) (f1 : Int) (f2 : Int) : Prop := ∃ A0 c0, W.heap[g]? = some (.cells #[.slice A0 f0.length c0, .int .i64 f1, .int .i64 f2] 118 (0, 0)) ∧ w0.heap.size ≤ g ∧ Kd.C (Kd.int .u8) w0 A0 f0.length f0
theorem IsS118.grown {w0 W : World} {g : Nat} {f0 : List Int} {f1 : Int} {f2 : Int} {W1 : World} {row : Option Nat} (h : IsS118 w0 W g f0 f1 f2) (hw : W.grownBy W1 row) (hne : some g ≠ row) : IsS118 w0 W1 g f0 f1 f2 := by
 obtain ⟨A0, c0, hb, hg, hr0⟩ := h
 exact ⟨A0, c0, blk_grown hb hw hne, hg, hr0⟩
theorem IsS118.own_neN {w0 W : World} {g : Nat} {f0 : List Int} {f1 : Int} {f2 : Int} {α : Type} {d : Kd α} {e : Nat} {base : Nat} {ok : Nat → Prop} {v : Value} {xs : List α} (h : IsS118 w0 W g f0 f1 f2) (ho : Kd.N d e W base ok v xs) (ht : e ≠ 118) : some g ≠ v.ownBlock := by
 obtain ⟨A0, c0, hb, hg, hr0⟩ := h
 exact Kd.N_ne ho hb ht
theorem IsS118.fresh {w0 W : World} {g : Nat} {f0 : List Int} {f1 : Int} {f2 : Int} (h : IsS118 w0 W g f0 f1 f2) : ∀ k, W.heap.size ≤ k → k ≠ g := by
 obtain ⟨A0, c0, hb, hg, hr0⟩ := h
 exact Kd.freshB hb
theorem IsS118.kept {w0 W : World} {g : Nat} {f0 : List Int} {f1 : Int} {f2 : Int} {W1 : World} {S : Nat → Prop} (h : IsS118 w0 W g f0 f1 f2) (hk : Kept W W1 S) (hne : ¬ S g) : IsS118 w0 W1 g f0 f1 f2 := by
 obtain ⟨A0, c0, hb, hg, hr0⟩ := h
 exact ⟨A0, c0, blk_kept hb hk hne, hg, hr0⟩
theorem IsS118.below {w0 W : World} {g : Nat} {f0 : List Int} {f1 : Int} {f2 : Int} {W1 : World} (h : IsS118 w0 W g f0 f1 f2) (hw : Below W.heap.size W W1) : IsS118 w0 W1 g f0 f1 f2 := h.grown (grown_of_below hw none) (by simp)
theorem IsS118.alloc {w0 W : World} {g : Nat} {f0 : List Int} {f1 : Int} {f2 : Int} (h : IsS118 w0 W g f0 f1 f2) (o : Obj) : IsS118 w0 (W.alloc o) g f0 f1 f2 := h.below (below_alloc (Below.refl _ _) o)
theorem IsS118.drewN {w0 W : World} {g : Nat} {f0 : List Int} {f1 : Int} {f2 : Int} (h : IsS118 w0 W g f0 f1 f2) (m : Nat) : IsS118 w0 (W.drewN m) g f0 f1 f2 := h
theorem IsS118.drew {w0 W : World} {g : Nat} {f0 : List Int} {f1 : Int} {f2 : Int} (h : IsS118 w0 W g f0 f1 f2) : IsS118 w0 W.drew g f0 f1 f2 := h
theorem IsS118.at_ {w0 W : World} {g : Nat} {f0 : List Int} {f1 : Int} {f2 : Int} {w' : World} {m : Nat} (hq : W.drewN m = w') (h : IsS118 w0 W g f0 f1 f2) : IsS118 w0 w' g f0 f1 f2 := by subst hq; exact IsS118.drewN h m
theorem IsS118.apart {w0 W : World} {g : Nat} {f0 : List Int} {f1 : Int} {f2 : Int} {α : Type} {d : Kd α} {e : Nat} {base : Nat} {ok : Nat → Prop} {v : Value} {xs : List α} (h : IsS118 w0 W g f0 f1 f2) (ho : d.R e W base ok v xs) (ht : ∀ q, q ∈ e :: d.E → q ≠ 118) : d.R e W base (fun k => ok k ∧ k ≠ g) v xs := by
 obtain ⟨A0, c0, hb, hg, hr0⟩ := h
 exact Kd.R_types ho hb ht
theorem IsS118.own_ne {w0 W : World} {g : Nat} {f0 : List Int} {f1 : Int} {f2 : Int} {α : Type} {d : Kd α} {e : Nat} {base : Nat} {ok : Nat → Prop} {v : Value} {xs : List α} (h : IsS118 w0 W g f0 f1 f2) (ho : d.R e W base ok v xs) (ht : e ≠ 118) : some g ≠ v.ownBlock := by
 obtain ⟨A0, c0, hb, hg, hr0⟩ := h
 exact Kd.R_ne ho hb ht
theorem IsS118.apartS {w0 W : World} {g : Nat} {f0 : List Int} {f1 : Int} {f2 : Int} {α : Type} {d : Kd α} {e : Nat} {base : Nat} {ok : Nat → Prop} {v : Value} {xs : List α} (h : IsS118 w0 W g f0 f1 f2) (ho : d.S e W base ok v xs) (ht : ∀ q, q ∈ e :: d.E → q ≠ 118) : d.S e W base (fun k => ok k ∧ k ≠ g) v xs := by
 obtain ⟨A0, c0, hb, hg, hr0⟩ := h
 exact Kd.S_types ho hb ht
theorem IsS118.own_neS {w0 W : World} {g : Nat} {f0 : List Int} {f1 : Int} {f2 : Int} {α : Type} {d : Kd α} {e : Nat} {base : Nat} {ok : Nat → Prop} {v : Value} {xs : List α} (h : IsS118 w0 W g f0 f1 f2) (ho : d.S e W base ok v xs) (ht : e ≠ 118) : some g ≠ v.ownBlock := by
 obtain ⟨A0, c0, hb, hg, hr0⟩ := h
 exact Kd.S_ne ho hb ht
theorem IsS118.lt {w0 W : World} {g : Nat} {f0 : List Int} {f1 : Int} {f2 : Int} (h : IsS118 w0 W g f0 f1 f2) : g < W.heap.size := by
 obtain ⟨A0, c0, hb, hg, hr0⟩ := h
 exact blk_lt hb
theorem IsS118.ge {w0 W : World} {g : Nat} {f0 : List Int} {f1 : Int} {f2 : Int} (h : IsS118 w0 W g f0 f1 f2) : w0.heap.size ≤ g := by
 obtain ⟨A0, c0, hb, hg, hr0⟩ := h
 exact hg
theorem IsS118.ne_blk {w0 W : World} {g : Nat} {f0 : List Int} {f1 : Int} {f2 : Int} {a : Nat} {cs : Array Value} {t : TypeId} {fr : Nat × Nat} (h : IsS118 w0 W g f0 f1 f2) (hb2 : W.heap[a]? = some (.cells cs t fr)) (ht : t ≠ 118) : g ≠ a := by
 obtain ⟨A0, c0, hb, hg, hr0⟩ := h
 rintro rfl
 rw [hb] at hb2
 injection hb2 with hb2
 injection hb2 with _ ht2
 exact ht ht2.symm
theorem IsS118.far {w0 W : World} {g : Nat} {f0 : List Int} {f1 : Int} {f2 : Int} {p : Addr} (h : IsS118 w0 W g f0 f1 f2) (hne : g ≠ p.block) (u : Value) : IsS118 w0 (W.setCell p u) g f0 f1 f2 := by
 obtain ⟨A0, c0, hb, hg, hr0⟩ := h
 exact ⟨A0, c0, blk_far hb hne u, hg, hr0⟩
theorem cellS118_0 {W : World} {g : Nat} {A0 : Option Addr} {c0 : Nat} {f0 : List Int} {f1 : Int} {f2 : Int} (h : W.heap[g]? = some (.cells #[.slice A0 f0.length c0, .int .i64 f1, .int .i64 f2] 118 (0, 0))) : W.cell? ⟨g, 0, none⟩ = some (.slice A0 f0.length c0) := (blk_cell h 0).trans rfl
theorem cellS118_1 {W : World} {g : Nat} {A0 : Option Addr} {c0 : Nat} {f0 : List Int} {f1 : Int} {f2 : Int} (h : W.heap[g]? = some (.cells #[.slice A0 f0.length c0, .int .i64 f1, .int .i64 f2] 118 (0, 0))) : W.cell? ⟨g, 1, none⟩ = some (.int .i64 f1) := (blk_cell h 1).trans rfl
theorem IsS118.set_1 {w0 W : World} {g : Nat} {f0 : List Int} {f1 : Int} {f2 : Int} (h : IsS118 w0 W g f0 f1 f2) (x : Int) : IsS118 w0 (W.setCell ⟨g, 1, none⟩ (.int .i64 x)) g f0 x f2 := by
 obtain ⟨A0, c0, hb, hg, hr0⟩ := h
 exact ⟨A0, c0, by simpa using blk_set hb 1 (.int .i64 x), hg, hr0⟩
theorem cellS118_2 {W : World} {g : Nat} {A0 : Option Addr} {c0 : Nat} {f0 : List Int} {f1 : Int} {f2 : Int} (h : W.heap[g]? = some (.cells #[.slice A0 f0.length c0, .int .i64 f1, .int .i64 f2] 118 (0, 0))) : W.cell? ⟨g, 2, none⟩ = some (.int .i64 f2) := (blk_cell h 2).trans rfl
theorem IsS118.set_2 {w0 W : World} {g : Nat} {f0 : List Int} {f1 : Int} {f2 : Int} (h : IsS118 w0 W g f0 f1 f2) (x : Int) : IsS118 w0 (W.setCell ⟨g, 2, none⟩ (.int .i64 x)) g f0 f1 x := by
 obtain ⟨A0, c0, hb, hg, hr0⟩ := h
 exact ⟨A0, c0, by simpa using blk_set hb 2 (.int .i64 x), hg, hr0⟩
theorem IsS118.new (w0 W : World) (A0 : Option Addr) (c0 : Nat) (f0 : List Int) (f1 : Int) (f2 : Int) (hB : Below w0.heap.size w0 W) (hr0 : Kd.C (Kd.int .u8) w0 A0 f0.length f0) : IsS118 w0 (W.alloc (.cells #[.slice A0 f0.length c0, .int .i64 f1, .int .i64 f2] 118)) W.heap.size f0 f1 f2 := ⟨A0, c0, by simpa using heap_alloc_new W _, hB.size, hr0⟩
theorem rbi {n : Nat} {w W W' : World} (h : Aside0 (Below n w W)) (f : Below n w W → Below n w W' := by (intro h; repeat (first | (with_reducible first | exact h | apply b1 | apply b2 | apply b3 | refine below_set ?_ asd | refine below_set ?_ (IsS118.ge asd) | refine below_set ?_ lt_) | exact h))) : Below n w W' := f h.out
theorem bsi {w W W' w2 : World} (h : Aside0 (Below w.heap.size w W)) (hb : Below W'.heap.size W' w2) (f : Below w.heap.size w W → Below w.heap.size w W' := by (intro h; repeat (first | (with_reducible first | exact h | apply b1 | apply b2 | apply b3 | refine below_set ?_ asd | refine below_set ?_ (IsS118.ge asd) | refine below_set ?_ lt_) | exact h))) : Aside0 (Below w.heap.size w w2) := ⟨below_step (f h.out) hb⟩
theorem ri118 {w0 W W' : World} {g : Nat} {f0 : List Int} {f1 : Int} {f2 : Int} {f0' : List Int} {f1' : Int} {f2' : Int} (h : Aside0 (IsS118 w0 W g f0 f1 f2)) (f : IsS118 w0 W g f0 f1 f2 → IsS118 w0 W' g f0' f1' f2' := by (intro h; repeat (first | (with_reducible first | exact h | apply IsS118.alloc | apply IsS118.drew | apply IsS118.drewN | apply IsS118.set_1 | apply IsS118.set_2 | refine IsS118.far ?_ asd _) | exact h))) : IsS118 w0 W' g f0' f1' f2' := f h.out
theorem il118 {w0 W W' : World} {g n : Nat} {f0 : List Int} {f1 : Int} {f2 : Int} {f0' : List Int} {f1' : Int} {f2' : Int} (e : n = W'.heap.size) (h : Aside0 (IsS118 w0 W g f0 f1 f2)) (f : IsS118 w0 W g f0 f1 f2 → IsS118 w0 W' g f0' f1' f2' := by (intro h; repeat (first | (with_reducible first | exact h | apply IsS118.alloc | apply IsS118.drew | apply IsS118.drewN | apply IsS118.set_1 | apply IsS118.set_2 | refine IsS118.far ?_ asd _) | exact h))) : g ≠ n := e ▸ Nat.ne_of_lt (f h.out).lt

/-! ### spec_l1New: function 49 -/
def spec_l1New.l0 : Nat → List Int → Int → Int → Option (List Int × Int × Int)
 | 0, _, _, _ => none
 | k + 1, x0, x3, x4 => if x4 < (x0.length : Int) then (if 0 ≤ x4 then (spec_l1New.l0 k x0 (Go.bits .and .i64 (wrap64 ((wrap64 ((wrap64 (x3 * 137)) + (wrap64 (rd x0 x4)))) + 11)) 1073741823) (wrap64 (x4 + 1))) else (none)) else (some (x0, 0, x3))
def spec_l1New.f (k : Nat) (l0 : List Int) : Option (List Int × Int × Int) := spec_l1New.l0 k l0 (wrap64 (110017 + (l0.length : Int))) 0
theorem spec_l1New.mono_l : ∀ k, (∀ y0 y1 y2, LeO (spec_l1New.l0 k y0 y1 y2) (spec_l1New.l0 (k + 1) y0 y1 y2))
 | 0 => fun _ _ _ r h => by simp [spec_l1New.l0] at h
 | k + 1 => by
  have ih0 := spec_l1New.mono_l k
  ·intro y0 y1 y2
   unfold spec_l1New.l0
   repeat' first
   | (with_reducible exact ih0 _ _ _)
   | (with_reducible exact LeO.refl _)
   | (with_reducible exact LeO.none _)
   | (with_reducible refine LeO.ite ?_ ?_)
   | (with_reducible refine LeO.bind ?_ (fun _ => ?_))
theorem spec_l1New.mono : ∀ a0 k, LeO (spec_l1New.f k a0) (spec_l1New.f (k + 1) a0) := by
 intro a0 k
 have ih0 := spec_l1New.mono_l k
 unfold spec_l1New.f
 repeat' first
   | (with_reducible exact ih0 _ _ _)
   | (with_reducible exact LeO.refl _)
   | (with_reducible exact LeO.none _)
   | (with_reducible refine LeO.ite ?_ ?_)
   | (with_reducible refine LeO.bind ?_ (fun _ => ?_))
set_option maxHeartbeats 8000000 in
set_option maxRecDepth 100000 in
theorem spec_l1New.calls (k : Nat) (A0 : Option Addr) (c0 : Nat) (l0 : List Int) (r1 : List Int) (r2 : Int) (r3 : Int) (w0 w : World) (hB : Below w0.heap.size w0 w) (al : Kd.C (Kd.int .u8) w0 A0 l0.length l0) (ak : l0.length ≤ c0) (h : spec_l1New.f k l0 = some (r1, r2, r3)) :
  Calls Try.prog 49 #[.slice A0 l0.length c0] w fun e w' => ∃ g_ : Nat, e = .returned (.pointer (some ⟨g_, 0, none⟩)) ∧ IsS118 w0 w' g_ r1 r2 r3 ∧ Below w0.heap.size w0 w' ∧ Below w.heap.size w w' := by
 (
have ax := Try.underlying118
have aj := am al
have az := am ak
clear al ak
have HBW := am (Below.refl w.heap.size w)
have aq := am hB.size
have HB := am hB
clear hB
have H : (spec_l1New.l0 k l0 (wrap64 (110017 + (l0.length : Int))) 0) = some (r1, r2, r3) := h
clear h
have H' := am H
clear H
go_enter Try.func49, Try.ntmps49
go_wp2
go_loopg [3, 4] k (fun kq v3 v4 w' => ∃ (a9 : Int) (a8 : Int), v3 = .int .i64 a9 ∧ v4 = .int .i64 a8 ∧ Aside0 (spec_l1New.l0 kq l0 a9 a8 = some (r1, r2, r3)) ∧ Aside0 (kq ≤ k) ∧ Aside0 (Below w0.heap.size w0 w') ∧ Aside0 (Below w.heap.size w w'))
case atStart => exact ⟨(wrap64 (110017 + (l0.length : Int))), (0), sd, sd, H', ⟨Nat.le_refl _⟩, ⟨rb HB⟩, ⟨rb HBW⟩⟩
case round => (
clear H'
obtain ⟨a9, a8, rfl, rfl, HA, ai, HB, HBW⟩ := hrel
cases gk with
| zero => exact absurd HA.out (by simp [spec_l1New.l0])
| succ k1 => (
have H := HA.out
clear HA
simp only [spec_l1New.l0] at H
by_cases c2 : a8 < (l0.length : Int)
·(
rw [if_pos c2] at H
have ao : decide (a8 < (l0.length : Int)) = true := decide_eq_true c2
clear c2
by_cases c3 : 0 ≤ a8
·(
rw [if_pos c3] at H
have ay : decide (0 ≤ a8) = true := decide_eq_true c3
clear c3
have H' := am H
clear H
have ae : 0 ≤ (a8 : Int) := dt_
have af : a8 < (l0.length : Int) := dt_
obtain ⟨av, ap, aa⟩ := Kd.at_int aj.out a8 ae af
cases ap
replace aa := pw_cell_below HB.out aa
replace ae := eq_true ae
replace af := eq_true af
go_wp2
go_roundg k1
case measure => have := ai.out; omega
case rel => exact ⟨(Go.bits .and .i64 (wrap64 ((wrap64 ((wrap64 (a9 * 137)) + (wrap64 (rd l0 a8)))) + 11)) 1073741823), (wrap64 (a8 + 1)), sd, sd, H', ⟨by have := ai.out; omega⟩, ⟨rb HB⟩, ⟨rb HBW⟩⟩
)
·(
rw [if_neg c3] at H
exact absurd H (by simp)
)
)
·(
rw [if_neg c2] at H
have ao : decide (a8 < (l0.length : Int)) = false := decide_eq_false c2
clear c2
simp only [Option.some.injEq, Prod.mk.injEq] at H
obtain ⟨rfl, rfl, rfl⟩ := H
go_wp2_with (first | (refine bx 27 #[.slice A0 l0.length c0, .int .i64 0, .int .i64 a9] 118 ?_; intro ac hg w4 hbox hb; replace HB := bs HB hb; have ag := am (hbox); have au := am (gw hg (rb HBW)); have ah := am ((Nat.le_trans aq.out (by rw [hg]; exact (below_size (rb HBW)) : w.heap.size ≤ ac) : w0.heap.size ≤ ac)); replace HBW := am (below_step HBW.out hb); clear hb hbox hg))
go_ret
exact ⟨_, rfl, (show IsS118 w0 _ ac l0 0 a9 from ⟨_, _, rk ag, ah.out, aj.out⟩), rb HB, rb HBW⟩
)
)
)
)

/-! ### spec_l1Byte: function 90 -/
def spec_l1Byte.f (aa : List Int) (a9 : Int) (a8 : Int) : Option (Int × Int × Int) := if a9 < (aa.length : Int) then (if 0 ≤ a9 then (some (Go.bits .and .i64 (wrap64 ((Go.bits .and .i64 (Go.bits .xor .i64 ((wrap64 ((wrap64 (a8 * 6364136223846793005)) + 1442695040888963407)) / 8589934592) ((wrap64 ((wrap64 (a8 * 6364136223846793005)) + 1442695040888963407)) / 35184372088832)) 255) + (wrap64 (rd aa a9)))) 255, wrap64 (a9 + 1), wrap64 ((wrap64 (a8 * 6364136223846793005)) + 1442695040888963407))) else (none)) else (some (Go.bits .and .i64 (Go.bits .xor .i64 ((wrap64 ((wrap64 (a8 * 6364136223846793005)) + 1442695040888963407)) / 8589934592) ((wrap64 ((wrap64 (a8 * 6364136223846793005)) + 1442695040888963407)) / 35184372088832)) 255, a9, wrap64 ((wrap64 (a8 * 6364136223846793005)) + 1442695040888963407)))
set_option maxHeartbeats 8000000 in
set_option maxRecDepth 100000 in
theorem spec_l1Byte.calls (g : Nat) (aa : List Int) (a9 : Int) (ag : Int) (r1 : Int) (r2 : Int) (r3 : Int) (w0 w : World) (hI : IsS118 w0 w g aa a9 ag) (hB : Below w0.heap.size w0 w) (h : spec_l1Byte.f aa a9 ag = some (r1, r2, r3)) :
  Calls Try.prog 90 #[.pointer (some ⟨g, 0, none⟩)] w fun e w' => e = .returned (.int .i64 r1) ∧ IsS118 w0 w' g aa r2 r3 ∧ Below w0.heap.size w0 w' ∧ KeepBut w w' g none := by
 (
have ah := am hI
have HK := am (KeepBut.refl w g none)
have HL := am hB.size
clear hI
have aL := am hB.size
have HB := am hB
clear hB
have H := h
unfold spec_l1Byte.f at H
clear h
by_cases c2 : a9 < (aa.length : Int)
·(
rw [if_pos c2] at H
have ao : decide (a9 < (aa.length : Int)) = true := decide_eq_true c2
clear c2
by_cases c3 : 0 ≤ a9
·(
rw [if_pos c3] at H
have aK : decide (0 ≤ a9) = true := decide_eq_true c3
clear c3
simp only [Option.some.injEq, Prod.mk.injEq] at H
obtain ⟨rfl, rfl, rfl⟩ := H
obtain ⟨ASz4_0, ay, ac, aq, ak⟩ := ah.out
have aA := cellS118_0 ac
have aB := cellS118_1 ac
have aC := cellS118_2 ac
have aG := blk_frozen ac 1
have aH := blk_frozen ac 2
clear ac aq
have ai : 0 ≤ (a9 : Int) := dt_
have aj : a9 < (aa.length : Int) := dt_
obtain ⟨al, ap, a8⟩ := Kd.at_int ak a9 ai aj
cases ap
have af : al.block ≠ g := Nat.ne_of_lt (Nat.lt_of_lt_of_le (by have := World.block_lt_of_cell? _ _ a8; first | rwa [add_block] at this | exact this) (IsS118.ge ah.out))
replace a8 := pw_cell_below HB.out a8
replace a8 := (cell_far (p := ⟨g, 2, none⟩) (ab af) (.int .i64 (wrap64 ((wrap64 (ag * 6364136223846793005)) + 1442695040888963407)))).trans a8
(try have av := fun (n_ : Nat) => (show (((w.drewN n_).setCell ⟨g, 2, none⟩ (.int .i64 (wrap64 ((wrap64 (ag * 6364136223846793005)) + 1442695040888963407))))).cell? _ = some _ from a8))
clear af
replace ai := eq_true ai
replace aj := eq_true aj
go_enter Try.func90, Try.ntmps90
go_wp2
repeat (go_quiet (fail); try go_wp2)
go_ret
exact ⟨ew, ri118 ah, rbi HB, rkk HK⟩
)
·(
rw [if_neg c3] at H
exact absurd H (by simp)
)
)
·(
rw [if_neg c2] at H
have ao : decide (a9 < (aa.length : Int)) = false := decide_eq_false c2
clear c2
simp only [Option.some.injEq, Prod.mk.injEq] at H
obtain ⟨rfl, rfl, rfl⟩ := H
obtain ⟨ASz5_0, az, ae, au, ax⟩ := ah.out
have aD := cellS118_0 ae
have aE := cellS118_1 ae
have aF := cellS118_2 ae
have aI := blk_frozen ae 1
have aJ := blk_frozen ae 2
clear ae au
go_enter Try.func90, Try.ntmps90
go_wp2
repeat (go_quiet (fail); try go_wp2)
go_ret
exact ⟨ew, ri118 ah, rbi HB, rkk HK⟩
)
)

/-! ### spec_l1Below: function 52 -/
def spec_l1Below.f (a8 : List Int) (ag : Int) (ah : Int) (a1 : Int) : Option (Int × Int × Int) := if a1 ≤ 0 then (some (0, ag, ah)) else (if a1 ≤ 256 then ((spec_l1Byte.f a8 ag ah).bind fun a9 => (if a1 = 0 then (none) else (some (Int.tmod a9.1 a1, a9.2.1, a9.2.2)))) else ((spec_l1Byte.f a8 ag ah).bind fun aa => ((spec_l1Byte.f a8 aa.2.1 aa.2.2).bind fun ac => ((spec_l1Byte.f a8 ac.2.1 ac.2.2).bind fun ae => ((spec_l1Byte.f a8 ae.2.1 ae.2.2).bind fun af => (if a1 = 0 then (none) else (some (Int.tmod (wrap64 ((wrap64 ((wrap64 ((wrap64 (aa.1 * 16777216)) + (wrap64 (ac.1 * 65536)))) + (wrap64 (ae.1 * 256)))) + af.1)) a1, af.2.1, af.2.2))))))))
set_option maxHeartbeats 8000000 in
set_option maxRecDepth 100000 in
theorem spec_l1Below.calls (g : Nat) (a9 : List Int) (aa : Int) (ac : Int) (a1 : Int) (r1 : Int) (r2 : Int) (r3 : Int) (w0 w : World) (hI : IsS118 w0 w g a9 aa ac) (hB : Below w0.heap.size w0 w) (h : spec_l1Below.f a9 aa ac a1 = some (r1, r2, r3)) :
  Calls Try.prog 52 #[.pointer (some ⟨g, 0, none⟩), .int .i64 a1] w fun e w' => e = .returned (.int .i64 r1) ∧ IsS118 w0 w' g a9 r2 r3 ∧ Below w0.heap.size w0 w' ∧ KeepBut w w' g none := by
 (
have a8 := am hI
have HK := am (KeepBut.refl w g none)
have HL := am hB.size
clear hI
have aR := am hB.size
have HB := am hB
clear hB
have H := h
unfold spec_l1Below.f at H
clear h
by_cases c3 : a1 ≤ 0
·(
rw [if_pos c3] at H
have ao : decide (a1 ≤ 0) = true := decide_eq_true c3
clear c3
simp only [Option.some.injEq, Prod.mk.injEq] at H
obtain ⟨rfl, rfl, rfl⟩ := H
go_enter Try.func52, Try.ntmps52
go_wp2
go_ret
exact ⟨ew, ri118 a8, rbi HB, rkk HK⟩
)
·(
rw [if_neg c3] at H
have ao : decide (a1 ≤ 0) = false := decide_eq_false c3
clear c3
refine em_ (p := a1 ≤ 256) (fun c4 => ?aK) (fun c4 => ?aJ)
case' aK => (
rw [if_pos c4] at H
have ap : decide (a1 ≤ 256) = true := decide_eq_true c4
clear c4
obtain ⟨⟨aq, au, av⟩, A5, H⟩ := bd H
(try dsimp only at H)
refine em_ (p := a1 = 0) (fun c6 => ?aG) (fun c6 => ?aF)
case aG => (
rw [if_pos c6] at H
exact absurd H (by simp)
)
case' aF => (
rw [if_neg c6] at H
have aN : (a1 == 0) = false := beq_eq_false_iff_ne.mpr c6
have aO : (a1 != 0) = true := bne_iff_ne.mpr c6
simp only [Option.some.injEq, Prod.mk.injEq] at H
obtain ⟨rfl, rfl, rfl⟩ := H
have aP := trivial
)
)
case' aJ => (
rw [if_neg c4] at H
have ap : decide (a1 ≤ 256) = false := decide_eq_false c4
clear c4
obtain ⟨⟨ax, ag, ah⟩, A8, H⟩ := bd H
(try dsimp only at H)
obtain ⟨⟨ay, ai, aj⟩, A9, H⟩ := bd H
(try dsimp only at H)
obtain ⟨⟨az, ak, al⟩, aD, H⟩ := bd H
(try dsimp only at H)
obtain ⟨⟨aA, aB, aC⟩, aE, H⟩ := bd H
(try dsimp only at H)
refine em_ (p := a1 = 0) (fun ae => ?aI) (fun ae => ?aH)
case aI => (
rw [if_pos ae] at H
exact absurd H (by simp)
)
case' aH => (
rw [if_neg ae] at H
have aL : (a1 == 0) = false := beq_eq_false_iff_ne.mpr ae
have aM : (a1 != 0) = true := bne_iff_ne.mpr ae
simp only [Option.some.injEq, Prod.mk.injEq] at H
obtain ⟨rfl, rfl, rfl⟩ := H
have aQ := trivial
)
)
all_goals (
go_enter Try.func52, Try.ntmps52
go_wp2_with (first | ((with_reducible refine cg 90 rfl ?_); refine gl_ (some 22) Try.func90 #[.pointer (some ⟨g, 0, none⟩)] ?_; (with_reducible refine (spec_l1Byte.calls g a9 ai aj az ak al w0 _ ?side1 ?side2 aD.out).mono ?_); (case side1 => exact ri118 a8); (case side2 => exact rbi HB); rintro e aU ⟨rfl, hi, hb, hk⟩; refine ⟨_, rfl, ?_⟩; replace HK := kt HK hk; replace HB := am (hb); replace a8 := am (hi); (try clear hb); (try clear af); (try clear hk); (try clear hi)) | ((with_reducible refine cg 90 rfl ?_); refine gl_ (some 24) Try.func90 #[.pointer (some ⟨g, 0, none⟩)] ?_; (with_reducible refine (spec_l1Byte.calls g a9 ak al aA aB aC w0 _ ?side1 ?side2 aE.out).mono ?_); (case side1 => exact ri118 a8); (case side2 => exact rbi HB); rintro e aV ⟨rfl, hi, hb, hk⟩; refine ⟨_, rfl, ?_⟩; replace HK := kt HK hk; replace HB := am (hb); replace a8 := am (hi); (try clear hb); (try clear af); (try clear hk); (try clear hi)) | ((with_reducible refine cg 90 rfl ?_); refine gl_ (some 18) Try.func90 #[.pointer (some ⟨g, 0, none⟩)] ?_; (with_reducible refine (spec_l1Byte.calls g a9 aa ac ax ag ah w0 _ ?side1 ?side2 A8.out).mono ?_); (case side1 => exact ri118 a8); (case side2 => exact rbi HB); rintro e aS ⟨rfl, hi, hb, hk⟩; refine ⟨_, rfl, ?_⟩; replace HK := kt HK hk; replace HB := am (hb); replace a8 := am (hi); (try clear hb); (try clear af); (try clear hk); (try clear hi)) | ((with_reducible refine cg 90 rfl ?_); refine gl_ (some 20) Try.func90 #[.pointer (some ⟨g, 0, none⟩)] ?_; (with_reducible refine (spec_l1Byte.calls g a9 ag ah ay ai aj w0 _ ?side1 ?side2 A9.out).mono ?_); (case side1 => exact ri118 a8); (case side2 => exact rbi HB); rintro e aT ⟨rfl, hi, hb, hk⟩; refine ⟨_, rfl, ?_⟩; replace HK := kt HK hk; replace HB := am (hb); replace a8 := am (hi); (try clear hb); (try clear af); (try clear hk); (try clear hi)) | ((with_reducible refine cg 90 rfl ?_); refine gl_ (some 14) Try.func90 #[.pointer (some ⟨g, 0, none⟩)] ?_; (with_reducible refine (spec_l1Byte.calls g a9 aa ac aq au av w0 _ ?side1 ?side2 A5.out).mono ?_); (case side1 => exact ri118 a8); (case side2 => exact rbi HB); rintro e w7 ⟨rfl, hi, hb, hk⟩; refine ⟨_, rfl, ?_⟩; replace HK := kt HK hk; replace HB := am (hb); replace a8 := am (hi); (try clear hb); (try clear af); (try clear hk); (try clear hi)))
go_ret
exact ⟨ew, ri118 a8, rbi HB, rkk HK⟩
)
)
)

/-! ### spec_l1Once: function 51 -/
def spec_l1Once.f (a9 : List Int) (aa : Int) (ac : Int) (a1 : Int) : Option (Bool × Int × Int) := (spec_l1Below.f a9 aa ac a1).bind fun a8 => (some ((a8.1 == 0), a8.2.1, a8.2.2))
set_option maxHeartbeats 8000000 in
set_option maxRecDepth 100000 in
theorem spec_l1Once.calls (g : Nat) (a8 : List Int) (a9 : Int) (aa : Int) (a1 : Int) (r1 : Bool) (r2 : Int) (r3 : Int) (w0 w : World) (hI : IsS118 w0 w g a8 a9 aa) (hB : Below w0.heap.size w0 w) (h : spec_l1Once.f a8 a9 aa a1 = some (r1, r2, r3)) :
  Calls Try.prog 51 #[.pointer (some ⟨g, 0, none⟩), .int .i64 a1] w fun e w' => e = .returned (.bool r1) ∧ IsS118 w0 w' g a8 r2 r3 ∧ Below w0.heap.size w0 w' ∧ KeepBut w w' g none := by
 (
have ac := am hI
have HK := am (KeepBut.refl w g none)
have HL := am hB.size
clear hI
have ah := am hB.size
have HB := am hB
clear hB
have H := h
unfold spec_l1Once.f at H
clear h
obtain ⟨⟨ae, af, ag⟩, A3, H⟩ := bd H
(try dsimp only at H)
simp only [Option.some.injEq, Prod.mk.injEq] at H
obtain ⟨rfl, rfl, rfl⟩ := H
go_enter Try.func51, Try.ntmps51
go_wp2_with (first | ((with_reducible refine cg 52 rfl ?_); refine gl_ (some 7) Try.func52 #[.pointer (some ⟨g, 0, none⟩), .int .i64 a1] ?_; (with_reducible refine (spec_l1Below.calls g a8 a9 aa a1 ae af ag w0 _ ?side1 ?side2 A3.out).mono ?_); (case side1 => exact ri118 ac); (case side2 => exact rbi HB); rintro e w4 ⟨rfl, hi, hb, hk⟩; refine ⟨_, rfl, ?_⟩; replace HK := kt HK hk; replace HB := am (hb); replace ac := am (hi); (try clear hb); (try clear ai); (try clear hk); (try clear hi)))
go_ret
exact ⟨ew, ri118 ac, rbi HB, rkk HK⟩
)

/-! ### spec_l4DrawRune: function 125 -/
def spec_l4DrawRune.f (aa : List Int) (ac : Int) (ae : Int) : Option (Int × Int × Int) := (some (([97, 98, 120, 233, 19968, 19969, 128512, 32] : List Int) : List Int)).bind fun a9 => ((spec_l1Below.f aa ac ae 8).bind fun a8 => (if 0 ≤ a8.1 then (if a8.1 < (a9.length : Int) then (some (rd a9 a8.1, a8.2.1, a8.2.2)) else (none)) else (none)))
set_option maxHeartbeats 8000000 in
set_option maxRecDepth 100000 in
theorem spec_l4DrawRune.calls (g : Nat) (aa : List Int) (af : Int) (ag : Int) (r1 : Int) (r2 : Int) (r3 : Int) (w0 w : World) (hI : IsS118 w0 w g aa af ag) (hB : Below w0.heap.size w0 w) (h : spec_l4DrawRune.f aa af ag = some (r1, r2, r3)) :
  Calls Try.prog 125 #[.pointer (some ⟨g, 0, none⟩)] w fun e w' => e = .returned (.int .i64 r1) ∧ IsS118 w0 w' g aa r2 r3 ∧ Below w0.heap.size w0 w' ∧ KeepBut w w' g none := by
 (
have ai := am hI
have HK := am (KeepBut.refl w g none)
have HL := am hB.size
clear hI
have aD := am hB.size
have HB := am hB
clear hB
have H := h
unfold spec_l4DrawRune.f at H
clear h
obtain ⟨ah, ae⟩ : ∃ y_ : List Int, y_ = (([97, 98, 120, 233, 19968, 19969, 128512, 32] : List Int)) := ⟨_, rfl⟩
replace H : ((spec_l1Below.f aa af ag 8).bind fun a9 => (if 0 ≤ a9.1 then (if a9.1 < (ah.length : Int) then (some (rd ah a9.1, a9.2.1, a9.2.2)) else (none)) else (none))) = some (r1, r2, r3) := by first | (rw [ae]; with_reducible exact H) | (rw [ae]; exact H) | exact H
have ao := am ae
clear ae
obtain ⟨⟨a8, aq, au⟩, A2, H⟩ := bd H
(try dsimp only at H)
by_cases c3 : 0 ≤ a8
·(
rw [if_pos c3] at H
have az : decide (0 ≤ a8) = true := decide_eq_true c3
clear c3
by_cases c4 : a8 < (ah.length : Int)
·(
rw [if_pos c4] at H
have aA : decide (a8 < (ah.length : Int)) = true := decide_eq_true c4
clear c4
simp only [Option.some.injEq, Prod.mk.injEq] at H
obtain ⟨rfl, rfl, rfl⟩ := H
go_enter Try.func125, Try.ntmps125
go_wp2_with (first | ((with_reducible refine gate_dst (N := 3) rfl ?_); refine Kd.R_lit (Kd.int .i64) _ 2 ?hg (N := 3) ?hd (xs := ([97, 98, 120, 233, 19968, 19969, 128512, 32] : List Int)) (inner := [.int .i64 97, .int .i64 98, .int .i64 120, .int .i64 233, .int .i64 19968, .int .i64 19969, .int .i64 128512, .int .i64 32]) (ok := fun _ => True) (okp := fun _ => True) ?hr ?hp (fun _ hk => hk) trivial (Below.refl _ _) (Nat.le_refl _) (by simp) ?_; (case hd => rfl); (case hg => rfl); (case hr => first | (go_simp; done) | (go_simp; rfl)); (case hp => exact (Reps.one (show Kd.M (Kd.int .i64) _ _ _ 97 [.int .i64 97] from rfl) (Reps.one (show Kd.M (Kd.int .i64) _ _ _ 98 [.int .i64 98] from rfl) (Reps.one (show Kd.M (Kd.int .i64) _ _ _ 120 [.int .i64 120] from rfl) (Reps.one (show Kd.M (Kd.int .i64) _ _ _ 233 [.int .i64 233] from rfl) (Reps.one (show Kd.M (Kd.int .i64) _ _ _ 19968 [.int .i64 19968] from rfl) (Reps.one (show Kd.M (Kd.int .i64) _ _ _ 19969 [.int .i64 19969] from rfl) (Reps.one (show Kd.M (Kd.int .i64) _ _ _ 128512 [.int .i64 128512] from rfl) (Reps.one (show Kd.M (Kd.int .i64) _ _ _ 32 [.int .i64 32] from rfl) (Reps.none _ _)))))))))); intro aB w5 aj hb hg_ hnew_; clear hg_ hnew_; (first | rw [← ao.out] at aj | (simp only [Int.reduceToNat] at aj; rw [← ao.out] at aj)); have ac := am (Kd.R_lower aj (ks HK)); replace HK := kb HK hb; replace HB := bsi HB hb; replace ai := am (IsS118.below (ri118 ai) hb); clear hb aj) | ((with_reducible refine cg 52 rfl ?_); refine gl_ (some 5) Try.func52 #[.pointer (some ⟨g, 0, none⟩), .int .i64 8] ?_; (with_reducible refine (spec_l1Below.calls g aa af ag 8 a8 aq au w0 _ ?side1 ?side2 A2.out).mono ?_); (case side1 => exact ri118 ai); (case side2 => exact rbi HB); rintro e w7 ⟨rfl, hi, hb, hk⟩; refine ⟨_, rfl, ?_⟩; replace ac := am (Kd.R_mono (Kd.R_keep (IsS118.apart (show IsS118 w0 _ g aa af ag from ri118 ai) (rr ac) (by decide)) hk (fun _ h => h.2)) (fun _ h => h.1)); replace HK := kt HK hk; replace HB := am (hb); replace ai := am (hi); (try clear hb); (try clear aF); (try clear hk); (try clear hi); obtain ⟨aC, aE, ax⟩ := Kd.R_slice ac.out; subst ax; have ak : 0 ≤ (a8 : Int) := dt_; have al : a8 < (ah.length : Int) := dt_; obtain ⟨ay, ap, av⟩ := Kd.at_int (Kd.R_reads' ac.out).2.2 a8 ak al; cases ap; replace ak := eq_true ak; replace al := eq_true al))
go_ret
exact ⟨ew, ri118 ai, rbi HB, rkk HK⟩
)
·(
rw [if_neg c4] at H
exact absurd H (by simp)
)
)
·(
rw [if_neg c3] at H
exact absurd H (by simp)
)
)

end Go.Proofs.Ytalopdcephohgaa.RD
