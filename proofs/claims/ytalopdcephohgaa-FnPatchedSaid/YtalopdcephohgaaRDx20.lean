/- Contracts of Go functions that laws of this seat reach: each Lean function answers as its Go function does. No condition. Written by wip/tools/inj.py, over the kit's print. -/
import Derived.Test.YtalopdcephohgaaRDx0
import Derived.Test.YtalopdcephohgaaRDx2
import Derived.Test.YtalopdcephohgaaRDx14
import Derived.Test.YtalopdcephohgaaRDx18
namespace Go.Proofs.Ytalopdcephohgaa.RD
open Go.RowKit Go.Proofs.YtalopdcephohgaaW.PrintWords Go.Proofs.YtalopdcephohgaaW.PrintLast Go.Proofs.YtalopdcephohgaaW.PrintMore
attribute [local go_sem] max2_int min2_int max_two min_two max_three min_three max_four min_four   -- for this text's walks alone
set_option linter.unusedVariables false
set_option linter.unusedSimpArgs false

attribute [local go_sem high] eqA98
/-! ### impl_runs: function 73 -/
mutual
def impl_runs.l0 : Nat → Int → List (S98) → List (S98) → List (S101) → Int → Option ((List (S101)))
 | 0, _, _, _, _, _ => none
 | k + 1, x0, x1, x2, x7, x8 => if x8 < (x2.length : Int) then (impl_runs.l1 k x0 x1 x2 x7 x8 x8) else (some x7)
def impl_runs.l1 : Nat → Int → List (S98) → List (S98) → List (S101) → Int → Int → Option ((List (S101)))
 | 0, _, _, _, _, _, _ => none
 | k + 1, x0, x1, x2, x7, x8, x9 => if x8 < (x2.length : Int) then (if 0 ≤ x8 then (if x8 < (x1.length : Int) then (if (!(((rd_T98 x1 x8).f0) == ((rd_T98 x2 x8).f0)) || ((!(((rd_T98 x1 x8).f1.f0) == ((rd_T98 x2 x8).f1.f0)) || (!(((rd_T98 x1 x8).f1.f1) == ((rd_T98 x2 x8).f1.f1)) || (!(((rd_T98 x1 x8).f1.f2) == ((rd_T98 x2 x8).f1.f2)) || (!(((rd_T98 x1 x8).f1.f3) == ((rd_T98 x2 x8).f1.f3)) || (!(((rd_T98 x1 x8).f1.f4) == ((rd_T98 x2 x8).f1.f4))))))) || (!(((rd_T98 x1 x8).f2) == ((rd_T98 x2 x8).f2))))) = true then (impl_runs.l1 k x0 x1 x2 x7 (wrap64 (x8 + 1)) x9) else (if x8 > x9 then (if 0 ≤ x9 then (if x9 ≤ x8 then (if x8 ≤ (x2.length : Int) then ((impl_Cell_102.f ((x2.take (x8 : Int).toNat).drop (x9 : Int).toNat)).bind fun a8 => (if x7.length < 3518437208883 then (impl_runs.l0 k x0 x1 x2 (x7 ++ [(⟨x0, x9, a8⟩ : S101)]) (wrap64 (x8 + 1))) else (none))) else (none)) else (none)) else (none)) else (impl_runs.l0 k x0 x1 x2 x7 (wrap64 (x8 + 1))))) else (none)) else (none)) else (if x8 > x9 then (if 0 ≤ x9 then (if x9 ≤ x8 then (if x8 ≤ (x2.length : Int) then ((impl_Cell_102.f ((x2.take (x8 : Int).toNat).drop (x9 : Int).toNat)).bind fun a9 => (if x7.length < 3518437208883 then (impl_runs.l0 k x0 x1 x2 (x7 ++ [(⟨x0, x9, a9⟩ : S101)]) (wrap64 (x8 + 1))) else (none))) else (none)) else (none)) else (none)) else (impl_runs.l0 k x0 x1 x2 x7 (wrap64 (x8 + 1))))
end
def impl_runs.f (k : Nat) (a0 : Int) (l1 : List (S98)) (l2 : List (S98)) : Option ((List (S101))) := impl_runs.l0 k a0 l1 l2 (([] : List (S101))) 0
theorem impl_runs.mono_l : ∀ k, (∀ y0 y1 y2 y3 y4, LeO (impl_runs.l0 k y0 y1 y2 y3 y4) (impl_runs.l0 (k + 1) y0 y1 y2 y3 y4)) ∧ (∀ y0 y1 y2 y3 y4 y5, LeO (impl_runs.l1 k y0 y1 y2 y3 y4 y5) (impl_runs.l1 (k + 1) y0 y1 y2 y3 y4 y5))
 | 0 => ⟨fun _ _ _ _ _ r h => by simp [impl_runs.l0] at h, fun _ _ _ _ _ _ r h => by simp [impl_runs.l1] at h⟩
 | k + 1 => by
  obtain ⟨ih0, ih1⟩ := impl_runs.mono_l k
  refine ⟨?_, ?_⟩
  ·intro y0 y1 y2 y3 y4
   unfold impl_runs.l0
   repeat' first
   | (with_reducible exact ih0 _ _ _ _ _)
   | (with_reducible exact ih1 _ _ _ _ _ _)
   | (with_reducible exact LeO.refl _)
   | (with_reducible exact LeO.none _)
   | (with_reducible refine LeO.ite ?_ ?_)
   | (with_reducible refine LeO.bind ?_ (fun _ => ?_))
  ·intro y0 y1 y2 y3 y4 y5
   unfold impl_runs.l1
   repeat' first
   | (with_reducible exact ih0 _ _ _ _ _)
   | (with_reducible exact ih1 _ _ _ _ _ _)
   | (with_reducible exact LeO.refl _)
   | (with_reducible exact LeO.none _)
   | (with_reducible refine LeO.ite ?_ ?_)
   | (with_reducible refine LeO.bind ?_ (fun _ => ?_))
theorem impl_runs.mono : ∀ a0 a1 a2 k, LeO (impl_runs.f k a0 a1 a2) (impl_runs.f (k + 1) a0 a1 a2) := by
 intro a0 a1 a2 k
 obtain ⟨ih0, ih1⟩ := impl_runs.mono_l k
 unfold impl_runs.f
 repeat' first
   | (with_reducible exact ih0 _ _ _ _ _)
   | (with_reducible exact ih1 _ _ _ _ _ _)
   | (with_reducible exact LeO.refl _)
   | (with_reducible exact LeO.none _)
   | (with_reducible refine LeO.ite ?_ ?_)
   | (with_reducible refine LeO.bind ?_ (fun _ => ?_))
set_option maxHeartbeats 8000000 in
set_option maxRecDepth 100000 in
theorem impl_runs.calls (k : Nat) (a0 : Int) (A1 : Option Addr) (c1 : Nat) (l1 : List (S98)) (A2 : Option Addr) (c2 : Nat) (l2 : List (S98)) (r : List (S101)) (w : World) (co : Kd.C k98 w A1 l1.length l1) (cm : l1.length ≤ c1) (cp : Kd.C k98 w A2 l2.length l2) (cn : l2.length ≤ c2) (h : impl_runs.f k a0 l1 l2 = some r) :
  Calls Try.prog 73 #[.int .i64 a0, .slice A1 l1.length c1, .slice A2 l2.length c2] w fun e w' => ∃ v0_ : Value, e = .returned (v0_) ∧ Kd.S k101 101 w' w.heap.size (fun _ => True) v0_ r ∧ Below w.heap.size w w' := by
 (
have dz := Try.underlying98
have dv := Try.underlying101
have cP := am co
have dC := am cm
clear co cm
have bR := am cp
have cl := am cn
clear cp cn
have HB := am (Below.refl w.heap.size w)
have H : (impl_runs.l0 k a0 l1 l2 (([] : List (S101))) 0) = some r := h
clear h
obtain ⟨cd, aD⟩ : ∃ y_ : List (S101), y_ = (([] : List (S101))) := ⟨_, rfl⟩
replace H : (impl_runs.l0 k a0 l1 l2 cd 0) = some r := by first | (rw [aD]; with_reducible exact H) | (rw [aD]; exact H) | exact H
have av := am aD
clear aD
have H' := am H
clear H
go_enter Try.func73, Try.ntmps73
go_wp2_with (first | ((with_reducible refine gate_dst (N := 10) rfl ?_); refine Kd.S_lit k101 _ 101 ?hg (N := 10) ?hd (xs := ([] : List (S101))) (inner := []) (ok := fun _ => True) (okp := fun _ => True) ?hr ?hp (fun _ hk => hk) trivial (Below.refl _ _) (Nat.le_refl _) (by simp) ?_; (case hd => rfl); (case hg => rfl); (case hr => first | (go_simp; done) | (go_simp; rfl)); (case hp => exact (Reps.none _ _)); intro bX w4 aj hb hg_ hnew_; clear hg_ hnew_; (first | rw [← av.out] at aj | (simp only [Int.reduceToNat] at aj; rw [← av.out] at aj)); have bo := am (Kd.S_lower aj (below_size (rb HB))); replace HB := bs HB hb; clear hb aj))
repeat (go_quiet (first | ((with_reducible refine gate_dst (N := 10) rfl ?_); refine Kd.S_lit k101 _ 101 ?hg (N := 10) ?hd (xs := ([] : List (S101))) (inner := []) (ok := fun _ => True) (okp := fun _ => True) ?hr ?hp (fun _ hk => hk) trivial (Below.refl _ _) (Nat.le_refl _) (by simp) ?_; (case hd => rfl); (case hg => rfl); (case hr => first | (go_simp; done) | (go_simp; rfl)); (case hp => exact (Reps.none _ _)); intro bX w4 aj hb hg_ hnew_; clear hg_ hnew_; (first | rw [← av.out] at aj | (simp only [Int.reduceToNat] at aj; rw [← av.out] at aj)); have bo := am (Kd.S_lower aj (below_size (rb HB))); replace HB := bs HB hb; clear hb aj)); try go_wp2_with (first | ((with_reducible refine gate_dst (N := 10) rfl ?_); refine Kd.S_lit k101 _ 101 ?hg (N := 10) ?hd (xs := ([] : List (S101))) (inner := []) (ok := fun _ => True) (okp := fun _ => True) ?hr ?hp (fun _ hk => hk) trivial (Below.refl _ _) (Nat.le_refl _) (by simp) ?_; (case hd => rfl); (case hg => rfl); (case hr => first | (go_simp; done) | (go_simp; rfl)); (case hp => exact (Reps.none _ _)); intro bX w4 aj hb hg_ hnew_; clear hg_ hnew_; (first | rw [← av.out] at aj | (simp only [Int.reduceToNat] at aj; rw [← av.out] at aj)); have bo := am (Kd.S_lower aj (below_size (rb HB))); replace HB := bs HB hb; clear hb aj)))
go_loopg [7, 8] k (fun kq v7 v8 w' => ∃ (ac : List (S101)) (a9 : Int), v8 = .int .i64 a9 ∧ Aside0 (impl_runs.l0 kq a0 l1 l2 ac a9 = some r) ∧ Aside0 (kq ≤ k) ∧ Aside0 (Kd.S k101 101 w' w.heap.size (fun _ => True) v7 ac) ∧ Aside0 (Below w.heap.size w w'))
case atStart => exact ⟨(cd), (0), sd, H', ⟨Nat.le_refl _⟩, ⟨rs bo⟩, ⟨rb HB⟩⟩
case round => (
clear H'
try clear c1
try clear c2
obtain ⟨ac, a9, rfl, HA, az, aa, HB⟩ := hrel
cases gk with
| zero => exact absurd HA.out (by simp [impl_runs.l0])
| succ k1 => (
have H := HA.out
clear HA
simp only [impl_runs.l0] at H
by_cases c6 : a9 < (l2.length : Int)
·(
rw [if_pos c6] at H
have bS : decide (a9 < (l2.length : Int)) = true := decide_eq_true c6
clear c6
have H' := am H
clear H
go_wp2
repeat (go_quiet (fail); try go_wp2)
go_loopg [8] k1 (fun kq v8 w' => ∃ (a8 : Int), v8 = .int .i64 a8 ∧ Aside0 (impl_runs.l1 kq a0 l1 l2 ac a8 a9 = some r) ∧ Aside0 (kq ≤ k1) ∧ Aside0 (Kd.S k101 101 w' w.heap.size (fun _ => True) u7 ac) ∧ Aside0 (Below w.heap.size w w'))
case atStart => exact ⟨(a9), sd, H', ⟨Nat.le_refl _⟩, ⟨rs aa⟩, ⟨rb HB⟩⟩
case round => (
clear H'
try clear c1
try clear c2
try clear c6
try clear bS
obtain ⟨a8, rfl, HA, aA, aa, HB⟩ := hrel
cases gk with
| zero => exact absurd HA.out (by simp [impl_runs.l1])
| succ k2 => (
have H := HA.out
clear HA
simp only [impl_runs.l1] at H
refine em_ (p := a8 < (l2.length : Int)) (fun c7 => ?cF) (fun c7 => ?cE)
case' cF => (
rw [if_pos c7] at H
have cw : decide (a8 < (l2.length : Int)) = true := decide_eq_true c7
clear c7
refine em_ (p := 0 ≤ a8) (fun c8 => ?da) (fun c8 => ?d9)
case' da => (
rw [if_pos c8] at H
have dx : decide (0 ≤ a8) = true := decide_eq_true c8
clear c8
refine em_ (p := a8 < (l1.length : Int)) (fun c9 => ?d8) (fun c9 => ?d7)
case' d8 => (
rw [if_pos c9] at H
have dy : decide (a8 < (l1.length : Int)) = true := decide_eq_true c9
clear c9
refine em_ (p := (!(((rd_T98 l1 a8).f0) == ((rd_T98 l2 a8).f0)) || ((!(((rd_T98 l1 a8).f1.f0) == ((rd_T98 l2 a8).f1.f0)) || (!(((rd_T98 l1 a8).f1.f1) == ((rd_T98 l2 a8).f1.f1)) || (!(((rd_T98 l1 a8).f1.f2) == ((rd_T98 l2 a8).f1.f2)) || (!(((rd_T98 l1 a8).f1.f3) == ((rd_T98 l2 a8).f1.f3)) || (!(((rd_T98 l1 a8).f1.f4) == ((rd_T98 l2 a8).f1.f4))))))) || (!(((rd_T98 l1 a8).f2) == ((rd_T98 l2 a8).f2))))) = true) (fun aJ => ?d6) (fun aJ => ?d5)
case' d6 => (
rw [if_pos aJ] at H
have ch : (!(((rd_T98 l1 a8).f0) == ((rd_T98 l2 a8).f0)) || ((!(((rd_T98 l1 a8).f1.f0) == ((rd_T98 l2 a8).f1.f0)) || (!(((rd_T98 l1 a8).f1.f1) == ((rd_T98 l2 a8).f1.f1)) || (!(((rd_T98 l1 a8).f1.f2) == ((rd_T98 l2 a8).f1.f2)) || (!(((rd_T98 l1 a8).f1.f3) == ((rd_T98 l2 a8).f1.f3)) || (!(((rd_T98 l1 a8).f1.f4) == ((rd_T98 l2 a8).f1.f4))))))) || (!(((rd_T98 l1 a8).f2) == ((rd_T98 l2 a8).f2))))) = true := aJ
clear aJ
have H' := am H
clear H
have cI := trivial
)
case' d5 => (
rw [if_neg aJ] at H
have ch : (!(((rd_T98 l1 a8).f0) == ((rd_T98 l2 a8).f0)) || ((!(((rd_T98 l1 a8).f1.f0) == ((rd_T98 l2 a8).f1.f0)) || (!(((rd_T98 l1 a8).f1.f1) == ((rd_T98 l2 a8).f1.f1)) || (!(((rd_T98 l1 a8).f1.f2) == ((rd_T98 l2 a8).f1.f2)) || (!(((rd_T98 l1 a8).f1.f3) == ((rd_T98 l2 a8).f1.f3)) || (!(((rd_T98 l1 a8).f1.f4) == ((rd_T98 l2 a8).f1.f4))))))) || (!(((rd_T98 l1 a8).f2) == ((rd_T98 l2 a8).f2))))) = false := by simpa using aJ
clear aJ
refine em_ (p := a8 > a9) (fun aK => ?d4) (fun aK => ?d3)
case' d4 => (
rw [if_pos aK] at H
have cj : decide (a9 < a8) = true := decide_eq_true aK
clear aK
refine em_ (p := 0 ≤ a9) (fun aU => ?cZ) (fun aU => ?cY)
case' cZ => (
rw [if_pos aU] at H
have dg := eq_true aU
have dh : decide (0 ≤ a9) = true := decide_eq_true aU
clear aU
refine em_ (p := a9 ≤ a8) (fun aV => ?cX) (fun aV => ?cW)
case' cX => (
rw [if_pos aV] at H
have di := eq_true aV
have dj : decide (a9 ≤ a8) = true := decide_eq_true aV
clear aV
refine em_ (p := a8 ≤ (l2.length : Int)) (fun aW => ?cV) (fun aW => ?cU)
case' cV => (
rw [if_pos aW] at H
have dk := eq_true aW
have dm : decide (a8 ≤ (l2.length : Int)) = true := decide_eq_true aW
clear aW
obtain ⟨ak, aE⟩ : ∃ y_ : List (S98), y_ = ((l2.take (a8 : Int).toNat).drop (a9 : Int).toNat) := ⟨_, rfl⟩
replace H : ((impl_Cell_102.f ak).bind fun ae => (if ac.length < 3518437208883 then (impl_runs.l0 k2 a0 l1 l2 (ac ++ [(⟨a0, a9, ae⟩ : S101)]) (wrap64 (a8 + 1))) else (none))) = some r := by first | (rw [aE]; with_reducible exact H) | (rw [aE]; exact H) | exact H
have bJ := am aE
clear aE
obtain ⟨ae, bP, H⟩ := bd H
(try dsimp only at H)
refine em_ (p := ac.length < 3518437208883) (fun bA => ?cT) (fun bA => ?cS)
case' cT => (
rw [if_pos bA] at H
have LMc16 := am bA
clear bA
obtain ⟨ce, aG⟩ : ∃ y_ : List (S101), y_ = (ac ++ [(⟨a0, a9, ae⟩ : S101)]) := ⟨_, rfl⟩
replace H : (impl_runs.l0 k2 a0 l1 l2 ce (wrap64 (a8 + 1))) = some r := by first | (rw [aG]; with_reducible exact H) | (rw [aG]; exact H) | exact H
have bu := am aG
clear aG
have H' := am H
clear H
have cJ := trivial
)
case cS => (
rw [if_neg bA] at H
exact absurd H (by simp)
)
)
case cU => (
rw [if_neg aW] at H
exact absurd H (by simp)
)
)
case cW => (
rw [if_neg aV] at H
exact absurd H (by simp)
)
)
case cY => (
rw [if_neg aU] at H
exact absurd H (by simp)
)
)
case' d3 => (
rw [if_neg aK] at H
have cj : decide (a9 < a8) = false := decide_eq_false aK
clear aK
have H' := am H
clear H
have cK := trivial
)
)
)
case d7 => (
rw [if_neg c9] at H
exact absurd H (by simp)
)
)
case d9 => (
rw [if_neg c8] at H
exact absurd H (by simp)
)
)
case cE => (
rw [if_neg c7] at H
have cw : decide (a8 < (l2.length : Int)) = false := decide_eq_false c7
clear c7
refine em_ (p := a8 > a9) (fun aM => ?cH) (fun aM => ?cG)
case cH => (
rw [if_pos aM] at H
have ck : decide (a9 < a8) = true := decide_eq_true aM
clear aM
refine em_ (p := 0 ≤ a9) (fun aX => ?cD) (fun aX => ?cC)
case' cD => (
rw [if_pos aX] at H
have dn := eq_true aX
have dp : decide (0 ≤ a9) = true := decide_eq_true aX
clear aX
refine em_ (p := a9 ≤ a8) (fun aY => ?cB) (fun aY => ?cA)
case' cB => (
rw [if_pos aY] at H
have dq := eq_true aY
have dr : decide (a9 ≤ a8) = true := decide_eq_true aY
clear aY
refine em_ (p := a8 ≤ (l2.length : Int)) (fun aZ => ?de) (fun aZ => ?dd)
case' de => (
rw [if_pos aZ] at H
have dt := eq_true aZ
have du : decide (a8 ≤ (l2.length : Int)) = true := decide_eq_true aZ
clear aZ
obtain ⟨al, aH⟩ : ∃ y_ : List (S98), y_ = ((l2.take (a8 : Int).toNat).drop (a9 : Int).toNat) := ⟨_, rfl⟩
replace H : ((impl_Cell_102.f al).bind fun af => (if ac.length < 3518437208883 then (impl_runs.l0 k2 a0 l1 l2 (ac ++ [(⟨a0, a9, af⟩ : S101)]) (wrap64 (a8 + 1))) else (none))) = some r := by first | (rw [aH]; with_reducible exact H) | (rw [aH]; exact H) | exact H
have bK := am aH
clear aH
obtain ⟨af, bQ, H⟩ := bd H
(try dsimp only at H)
refine em_ (p := ac.length < 3518437208883) (fun bB => ?dc) (fun bB => ?db)
case' dc => (
rw [if_pos bB] at H
have LMc26 := am bB
clear bB
obtain ⟨cf, aI⟩ : ∃ y_ : List (S101), y_ = (ac ++ [(⟨a0, a9, af⟩ : S101)]) := ⟨_, rfl⟩
replace H : (impl_runs.l0 k2 a0 l1 l2 cf (wrap64 (a8 + 1))) = some r := by first | (rw [aI]; with_reducible exact H) | (rw [aI]; exact H) | exact H
have bv := am aI
clear aI
have H' := am H
clear H
have bW : (a8 : Int) ≤ ((l2.length : Int) : Int) := dt_
obtain ⟨i027, bM, _, bO, _⟩ := info_parts info98
have ay : l2.length ≤ c2 := cl.out
have hC27 : Kd.C k98 _ A2 l2.length l2 := bR.out
have ql27 : (a9 : Int) ≤ (a8 : Int) := dt_
have cM : (0 : Int) ≤ (a9 : Int) := dt_
have bU := cut_mid (P := Try.prog) 99 98 .i64 .i64 Try.underlying99 bM 7 bO A2 l2.length c2 a9 a8 cM ql27 bW ay
have aT := Kd.C_mid (lo := (a9 : Int).toNat) (hi := (a8 : Int).toNat) (c := c2) hC27 (by omega) (by omega) ay
obtain ⟨cO, hA27⟩ : ∃ A1, A1 = (if c2 = (a9 : Int).toNat then A2 else (A2 : Option Addr).map (·.add ((a9 : Int).toNat * 7))) := ⟨_, rfl⟩
obtain ⟨cR, bE⟩ : ∃ c1, c1 = c2 - (a9 : Int).toNat := ⟨_, rfl⟩
have bz : al.length = (a8 : Int).toNat - (a9 : Int).toNat := (by rw [bK.out, List.length_drop, List.length_take] <;> omega)
rw [show ((l2).take (a8 : Int).toNat).drop (a9 : Int).toNat = al from bK.out.symm] at aT
replace aT : Kd.C k98 _ cO al.length al := (by rw [hA27]; exact aT)
rw [← bz, ← hA27, ← bE] at bU
have bt := am aT
have bn := am (show al.length ≤ cR from by rw [bz, bE]; exact Nat.sub_le_sub_right (Nat.le_trans (by omega) ay) _)
clear aT hC27 ay bM bO bE
have KY27 := am bz
have KA27 := am hA27
clear bz hA27
replace bW := eq_true bW
have dA := trivial
)
case db => (
rw [if_neg bB] at H
exact absurd H (by simp)
)
)
case dd => (
rw [if_neg aZ] at H
exact absurd H (by simp)
)
)
case cA => (
rw [if_neg aY] at H
exact absurd H (by simp)
)
)
case cC => (
rw [if_neg aX] at H
exact absurd H (by simp)
)
all_goals (
go_wp2_with (first | (go_at_call 102; (with_reducible refine (impl_Cell_102.calls _ _ al af _ ?side1 ?side2 bQ.out).mono ?_); (case side1 => exact rc ((Kd.C_below bt.out HB.out))); (case side2 => exact bn.out); rintro e cu ⟨ca, rfl, ai, hb⟩; replace aa := am (Kd.S_elder' (rs aa) (Kd.R_base ai) hb); have ah := am (Kd.R_lower ai (below_size (rb HB))); replace HB := bs HB hb; (try clear hb); (try clear bC); (try clear hk); (try clear hi); (try clear ai); obtain ⟨ap, au, aQ⟩ := Kd.R_slice ah.out; subst aQ) | ((with_reducible refine gate_builtin (b := .append) (xs := #[.tmp 38, .tmp 47]) rfl ?_); at_builtin; refine Kd.S_append k101 (w0 := w) w.heap.size rfl (.tmp 38) (.tmp 47) 51 101 (.agg #[(.int .i64 0), (.int .i64 0), (.slice none 0 0)]) 40 rfl Try.underlying51 info101 rfl (by decide) (by omega) u7 ac (⟨a0, a9, af⟩ : S101) [.int .i64 a0, .int .i64 a9, .slice ap af.length au] (fun _ => True) (fun k_ => some k_ = (.slice ap af.length au : Value).ownBlock) rfl rfl ?aP (fun k_ hk_ => ((Kd.R_mono (ok' := fun k_ => ((fun _ => True)) k_ ∧ some k_ ≠ (u7 : Value).ownBlock) (Kd.R_apart' (ah.out) (Kd.S_typed aa.out) (by decide)) (fun k_ hk => ⟨trivial, hk.2⟩))).1 k_ hk_.symm) ?aF ?aO ?aB ?aS ?aL ?_; (case aP => exact k101_mkM _ _ _ (⟨a0, a9, af⟩ : S101) (Kd.R_mono (Kd.R_tight rfl (Kd.R_mono (ok' := fun k_ => ((fun _ => True)) k_ ∧ some k_ ≠ (u7 : Value).ownBlock) (Kd.R_apart' (ah.out) (Kd.S_typed aa.out) (by decide)) (fun k_ hk => ⟨trivial, hk.2⟩))) (fun _ h_ => h_))); (case aB => exact (rb HB)); (case aF => exact (fun _ _ => trivial)); (case aO => exact (by (with_reducible repeat (first | apply Kd.S_alloc | apply Kd.S_drewN | apply Kd.S_drew)); exact Kd.S_mono aa.out (fun k_ hk => ⟨trivial, fun e_ => hk.2 e_⟩))); (case aS => exact (below_size (rb HB))); (case aL => have := LMc26.out; omega); intro cb cv ho hb hg hat; rw [← bv.out] at ho; replace HB := am (hb); have bq := am (ho); clear aa ah; clear ho hb hg hat))
repeat (go_quiet (first | (go_at_call 102; (with_reducible refine (impl_Cell_102.calls _ _ al af _ ?side1 ?side2 bQ.out).mono ?_); (case side1 => exact rc ((Kd.C_below bt.out HB.out))); (case side2 => exact bn.out); rintro e cu ⟨ca, rfl, ai, hb⟩; replace aa := am (Kd.S_elder' (rs aa) (Kd.R_base ai) hb); have ah := am (Kd.R_lower ai (below_size (rb HB))); replace HB := bs HB hb; (try clear hb); (try clear bC); (try clear hk); (try clear hi); (try clear ai); obtain ⟨ap, au, aQ⟩ := Kd.R_slice ah.out; subst aQ) | ((with_reducible refine gate_builtin (b := .append) (xs := #[.tmp 38, .tmp 47]) rfl ?_); at_builtin; refine Kd.S_append k101 (w0 := w) w.heap.size rfl (.tmp 38) (.tmp 47) 51 101 (.agg #[(.int .i64 0), (.int .i64 0), (.slice none 0 0)]) 40 rfl Try.underlying51 info101 rfl (by decide) (by omega) u7 ac (⟨a0, a9, af⟩ : S101) [.int .i64 a0, .int .i64 a9, .slice ap af.length au] (fun _ => True) (fun k_ => some k_ = (.slice ap af.length au : Value).ownBlock) rfl rfl ?aP (fun k_ hk_ => ((Kd.R_mono (ok' := fun k_ => ((fun _ => True)) k_ ∧ some k_ ≠ (u7 : Value).ownBlock) (Kd.R_apart' (ah.out) (Kd.S_typed aa.out) (by decide)) (fun k_ hk => ⟨trivial, hk.2⟩))).1 k_ hk_.symm) ?aF ?aO ?aB ?aS ?aL ?_; (case aP => exact k101_mkM _ _ _ (⟨a0, a9, af⟩ : S101) (Kd.R_mono (Kd.R_tight rfl (Kd.R_mono (ok' := fun k_ => ((fun _ => True)) k_ ∧ some k_ ≠ (u7 : Value).ownBlock) (Kd.R_apart' (ah.out) (Kd.S_typed aa.out) (by decide)) (fun k_ hk => ⟨trivial, hk.2⟩))) (fun _ h_ => h_))); (case aB => exact (rb HB)); (case aF => exact (fun _ _ => trivial)); (case aO => exact (by (with_reducible repeat (first | apply Kd.S_alloc | apply Kd.S_drewN | apply Kd.S_drew)); exact Kd.S_mono aa.out (fun k_ hk => ⟨trivial, fun e_ => hk.2 e_⟩))); (case aS => exact (below_size (rb HB))); (case aL => have := LMc26.out; omega); intro cb cv ho hb hg hat; rw [← bv.out] at ho; replace HB := am (hb); have bq := am (ho); clear aa ah; clear ho hb hg hat)); try go_wp2_with (first | (go_at_call 102; (with_reducible refine (impl_Cell_102.calls _ _ al af _ ?side1 ?side2 bQ.out).mono ?_); (case side1 => exact rc ((Kd.C_below bt.out HB.out))); (case side2 => exact bn.out); rintro e cu ⟨ca, rfl, ai, hb⟩; replace aa := am (Kd.S_elder' (rs aa) (Kd.R_base ai) hb); have ah := am (Kd.R_lower ai (below_size (rb HB))); replace HB := bs HB hb; (try clear hb); (try clear bC); (try clear hk); (try clear hi); (try clear ai); obtain ⟨ap, au, aQ⟩ := Kd.R_slice ah.out; subst aQ) | ((with_reducible refine gate_builtin (b := .append) (xs := #[.tmp 38, .tmp 47]) rfl ?_); at_builtin; refine Kd.S_append k101 (w0 := w) w.heap.size rfl (.tmp 38) (.tmp 47) 51 101 (.agg #[(.int .i64 0), (.int .i64 0), (.slice none 0 0)]) 40 rfl Try.underlying51 info101 rfl (by decide) (by omega) u7 ac (⟨a0, a9, af⟩ : S101) [.int .i64 a0, .int .i64 a9, .slice ap af.length au] (fun _ => True) (fun k_ => some k_ = (.slice ap af.length au : Value).ownBlock) rfl rfl ?aP (fun k_ hk_ => ((Kd.R_mono (ok' := fun k_ => ((fun _ => True)) k_ ∧ some k_ ≠ (u7 : Value).ownBlock) (Kd.R_apart' (ah.out) (Kd.S_typed aa.out) (by decide)) (fun k_ hk => ⟨trivial, hk.2⟩))).1 k_ hk_.symm) ?aF ?aO ?aB ?aS ?aL ?_; (case aP => exact k101_mkM _ _ _ (⟨a0, a9, af⟩ : S101) (Kd.R_mono (Kd.R_tight rfl (Kd.R_mono (ok' := fun k_ => ((fun _ => True)) k_ ∧ some k_ ≠ (u7 : Value).ownBlock) (Kd.R_apart' (ah.out) (Kd.S_typed aa.out) (by decide)) (fun k_ hk => ⟨trivial, hk.2⟩))) (fun _ h_ => h_))); (case aB => exact (rb HB)); (case aF => exact (fun _ _ => trivial)); (case aO => exact (by (with_reducible repeat (first | apply Kd.S_alloc | apply Kd.S_drewN | apply Kd.S_drew)); exact Kd.S_mono aa.out (fun k_ hk => ⟨trivial, fun e_ => hk.2 e_⟩))); (case aS => exact (below_size (rb HB))); (case aL => have := LMc26.out; omega); intro cb cv ho hb hg hat; rw [← bv.out] at ho; replace HB := am (hb); have bq := am (ho); clear aa ah; clear ho hb hg hat)))
go_roundg k2
case measure => have := az.out; have := aA.out; omega
case rel => exact ⟨(cf), (wrap64 (a8 + 1)), sd, H', ⟨by have := az.out; have := aA.out; omega⟩, ⟨rs bq⟩, ⟨rb HB⟩⟩
)
)
case' cG => (
rw [if_neg aM] at H
have ck : decide (a9 < a8) = false := decide_eq_false aM
clear aM
have H' := am H
clear H
have dB := trivial
)
all_goals (
go_wp2
repeat (go_quiet (fail); try go_wp2)
go_roundg k2
case measure => have := az.out; have := aA.out; omega
case rel => exact ⟨(ac), (wrap64 (a8 + 1)), sd, H', ⟨by have := az.out; have := aA.out; omega⟩, ⟨rs aa⟩, ⟨rb HB⟩⟩
)
)
all_goals (
have bF : 0 ≤ (a8 : Int) := dt_
have bH : a8 < (l1.length : Int) := dt_
obtain ⟨df, cy, b4, b5, b6, b7, b8, b9, ba⟩ := at_T98 cP.out a8 bF bH
cases cy
replace b4 := mv HB.out b4
replace b5 := mv HB.out b5
replace b6 := mv HB.out b6
replace b7 := mv HB.out b7
replace b8 := mv HB.out b8
replace b9 := mv HB.out b9
replace ba := mv HB.out ba
replace bF := eq_true bF
replace bH := eq_true bH
have bG : 0 ≤ (a8 : Int) := dt_
have bI : a8 < (l2.length : Int) := dt_
obtain ⟨aC, cz, bb, bc, bf, bg, bh, bi, bj⟩ := at_T98 bR.out a8 bG bI
cases cz
replace bb := mv HB.out bb
replace bc := mv HB.out bc
replace bf := mv HB.out bf
replace bg := mv HB.out bg
replace bh := mv HB.out bh
replace bi := mv HB.out bi
replace bj := mv HB.out bj
replace bG := eq_true bG
replace bI := eq_true bI
first
| (
have q_ := cJ
have bV : (a8 : Int) ≤ ((l2.length : Int) : Int) := dt_
obtain ⟨i017, bL, _, bN, _⟩ := info_parts info98
have ax : l2.length ≤ c2 := cl.out
have hC17 : Kd.C k98 _ (some aC) l2.length l2 := bR.out
have ql17 : (a9 : Int) ≤ (a8 : Int) := dt_
have cL : (0 : Int) ≤ (a9 : Int) := dt_
have bT := cut_mid (P := Try.prog) 99 98 .i64 .i64 Try.underlying99 bL 7 bN (some aC) l2.length c2 a9 a8 cL ql17 bV ax
have aR := Kd.C_mid (lo := (a9 : Int).toNat) (hi := (a8 : Int).toNat) (c := c2) hC17 (by omega) (by omega) ax
obtain ⟨cN, hA17⟩ : ∃ A1, A1 = (if c2 = (a9 : Int).toNat then (some aC) else ((some aC) : Option Addr).map (·.add ((a9 : Int).toNat * 7))) := ⟨_, rfl⟩
obtain ⟨cQ, bD⟩ : ∃ c1, c1 = c2 - (a9 : Int).toNat := ⟨_, rfl⟩
have bw : ak.length = (a8 : Int).toNat - (a9 : Int).toNat := (by rw [bJ.out, List.length_drop, List.length_take] <;> omega)
rw [show ((l2).take (a8 : Int).toNat).drop (a9 : Int).toNat = ak from bJ.out.symm] at aR
replace aR : Kd.C k98 _ cN ak.length ak := (by rw [hA17]; exact aR)
rw [← bw, ← hA17, ← bD] at bT
have br := am aR
have bl := am (show ak.length ≤ cQ from by rw [bw, bD]; exact Nat.sub_le_sub_right (Nat.le_trans (by omega) ax) _)
clear aR hC17 ax bL bN bD
have KY17 := am bw
have KA17 := am hA17
clear bw hA17
replace bV := eq_true bV
go_wp2_with (first | (go_at_call 102; (with_reducible refine (impl_Cell_102.calls _ _ ak ae _ ?side1 ?side2 bP.out).mono ?_); (case side1 => exact rc ((Kd.C_below br.out HB.out))); (case side2 => exact bl.out); rintro e cq ⟨bY, rfl, ai, hb⟩; replace aa := am (Kd.S_elder' (rs aa) (Kd.R_base ai) hb); have ag := am (Kd.R_lower ai (below_size (rb HB))); replace HB := bs HB hb; (try clear hb); (try clear bC); (try clear hk); (try clear hi); (try clear ai); obtain ⟨ao, aq, aN⟩ := Kd.R_slice ag.out; subst aN) | ((with_reducible refine gate_builtin (b := .append) (xs := #[.tmp 38, .tmp 47]) rfl ?_); at_builtin; refine Kd.S_append k101 (w0 := w) w.heap.size rfl (.tmp 38) (.tmp 47) 51 101 (.agg #[(.int .i64 0), (.int .i64 0), (.slice none 0 0)]) 40 rfl Try.underlying51 info101 rfl (by decide) (by omega) u7 ac (⟨a0, a9, ae⟩ : S101) [.int .i64 a0, .int .i64 a9, .slice ao ae.length aq] (fun _ => True) (fun k_ => some k_ = (.slice ao ae.length aq : Value).ownBlock) rfl rfl ?aP (fun k_ hk_ => ((Kd.R_mono (ok' := fun k_ => ((fun _ => True)) k_ ∧ some k_ ≠ (u7 : Value).ownBlock) (Kd.R_apart' (ag.out) (Kd.S_typed aa.out) (by decide)) (fun k_ hk => ⟨trivial, hk.2⟩))).1 k_ hk_.symm) ?aF ?aO ?aB ?aS ?aL ?_; (case aP => exact k101_mkM _ _ _ (⟨a0, a9, ae⟩ : S101) (Kd.R_mono (Kd.R_tight rfl (Kd.R_mono (ok' := fun k_ => ((fun _ => True)) k_ ∧ some k_ ≠ (u7 : Value).ownBlock) (Kd.R_apart' (ag.out) (Kd.S_typed aa.out) (by decide)) (fun k_ hk => ⟨trivial, hk.2⟩))) (fun _ h_ => h_))); (case aB => exact (rb HB)); (case aF => exact (fun _ _ => trivial)); (case aO => exact (by (with_reducible repeat (first | apply Kd.S_alloc | apply Kd.S_drewN | apply Kd.S_drew)); exact Kd.S_mono aa.out (fun k_ hk => ⟨trivial, fun e_ => hk.2 e_⟩))); (case aS => exact (below_size (rb HB))); (case aL => have := LMc16.out; omega); intro bZ ct ho hb hg hat; rw [← bu.out] at ho; replace HB := am (hb); have bp := am (ho); clear aa ag; clear ho hb hg hat))
repeat (go_quiet (first | (go_at_call 102; (with_reducible refine (impl_Cell_102.calls _ _ ak ae _ ?side1 ?side2 bP.out).mono ?_); (case side1 => exact rc ((Kd.C_below br.out HB.out))); (case side2 => exact bl.out); rintro e cq ⟨bY, rfl, ai, hb⟩; replace aa := am (Kd.S_elder' (rs aa) (Kd.R_base ai) hb); have ag := am (Kd.R_lower ai (below_size (rb HB))); replace HB := bs HB hb; (try clear hb); (try clear bC); (try clear hk); (try clear hi); (try clear ai); obtain ⟨ao, aq, aN⟩ := Kd.R_slice ag.out; subst aN) | ((with_reducible refine gate_builtin (b := .append) (xs := #[.tmp 38, .tmp 47]) rfl ?_); at_builtin; refine Kd.S_append k101 (w0 := w) w.heap.size rfl (.tmp 38) (.tmp 47) 51 101 (.agg #[(.int .i64 0), (.int .i64 0), (.slice none 0 0)]) 40 rfl Try.underlying51 info101 rfl (by decide) (by omega) u7 ac (⟨a0, a9, ae⟩ : S101) [.int .i64 a0, .int .i64 a9, .slice ao ae.length aq] (fun _ => True) (fun k_ => some k_ = (.slice ao ae.length aq : Value).ownBlock) rfl rfl ?aP (fun k_ hk_ => ((Kd.R_mono (ok' := fun k_ => ((fun _ => True)) k_ ∧ some k_ ≠ (u7 : Value).ownBlock) (Kd.R_apart' (ag.out) (Kd.S_typed aa.out) (by decide)) (fun k_ hk => ⟨trivial, hk.2⟩))).1 k_ hk_.symm) ?aF ?aO ?aB ?aS ?aL ?_; (case aP => exact k101_mkM _ _ _ (⟨a0, a9, ae⟩ : S101) (Kd.R_mono (Kd.R_tight rfl (Kd.R_mono (ok' := fun k_ => ((fun _ => True)) k_ ∧ some k_ ≠ (u7 : Value).ownBlock) (Kd.R_apart' (ag.out) (Kd.S_typed aa.out) (by decide)) (fun k_ hk => ⟨trivial, hk.2⟩))) (fun _ h_ => h_))); (case aB => exact (rb HB)); (case aF => exact (fun _ _ => trivial)); (case aO => exact (by (with_reducible repeat (first | apply Kd.S_alloc | apply Kd.S_drewN | apply Kd.S_drew)); exact Kd.S_mono aa.out (fun k_ hk => ⟨trivial, fun e_ => hk.2 e_⟩))); (case aS => exact (below_size (rb HB))); (case aL => have := LMc16.out; omega); intro bZ ct ho hb hg hat; rw [← bu.out] at ho; replace HB := am (hb); have bp := am (ho); clear aa ag; clear ho hb hg hat)); try go_wp2_with (first | (go_at_call 102; (with_reducible refine (impl_Cell_102.calls _ _ ak ae _ ?side1 ?side2 bP.out).mono ?_); (case side1 => exact rc ((Kd.C_below br.out HB.out))); (case side2 => exact bl.out); rintro e cq ⟨bY, rfl, ai, hb⟩; replace aa := am (Kd.S_elder' (rs aa) (Kd.R_base ai) hb); have ag := am (Kd.R_lower ai (below_size (rb HB))); replace HB := bs HB hb; (try clear hb); (try clear bC); (try clear hk); (try clear hi); (try clear ai); obtain ⟨ao, aq, aN⟩ := Kd.R_slice ag.out; subst aN) | ((with_reducible refine gate_builtin (b := .append) (xs := #[.tmp 38, .tmp 47]) rfl ?_); at_builtin; refine Kd.S_append k101 (w0 := w) w.heap.size rfl (.tmp 38) (.tmp 47) 51 101 (.agg #[(.int .i64 0), (.int .i64 0), (.slice none 0 0)]) 40 rfl Try.underlying51 info101 rfl (by decide) (by omega) u7 ac (⟨a0, a9, ae⟩ : S101) [.int .i64 a0, .int .i64 a9, .slice ao ae.length aq] (fun _ => True) (fun k_ => some k_ = (.slice ao ae.length aq : Value).ownBlock) rfl rfl ?aP (fun k_ hk_ => ((Kd.R_mono (ok' := fun k_ => ((fun _ => True)) k_ ∧ some k_ ≠ (u7 : Value).ownBlock) (Kd.R_apart' (ag.out) (Kd.S_typed aa.out) (by decide)) (fun k_ hk => ⟨trivial, hk.2⟩))).1 k_ hk_.symm) ?aF ?aO ?aB ?aS ?aL ?_; (case aP => exact k101_mkM _ _ _ (⟨a0, a9, ae⟩ : S101) (Kd.R_mono (Kd.R_tight rfl (Kd.R_mono (ok' := fun k_ => ((fun _ => True)) k_ ∧ some k_ ≠ (u7 : Value).ownBlock) (Kd.R_apart' (ag.out) (Kd.S_typed aa.out) (by decide)) (fun k_ hk => ⟨trivial, hk.2⟩))) (fun _ h_ => h_))); (case aB => exact (rb HB)); (case aF => exact (fun _ _ => trivial)); (case aO => exact (by (with_reducible repeat (first | apply Kd.S_alloc | apply Kd.S_drewN | apply Kd.S_drew)); exact Kd.S_mono aa.out (fun k_ hk => ⟨trivial, fun e_ => hk.2 e_⟩))); (case aS => exact (below_size (rb HB))); (case aL => have := LMc16.out; omega); intro bZ ct ho hb hg hat; rw [← bu.out] at ho; replace HB := am (hb); have bp := am (ho); clear aa ag; clear ho hb hg hat)))
go_roundg k2
case measure => have := az.out; have := aA.out; omega
case rel => exact ⟨(ce), (wrap64 (a8 + 1)), sd, H', ⟨by have := az.out; have := aA.out; omega⟩, ⟨rs bp⟩, ⟨rb HB⟩⟩
)
| (
have q_ := cK
go_wp2
repeat (go_quiet (fail); try go_wp2)
go_roundg k2
case measure => have := az.out; have := aA.out; omega
case rel => exact ⟨(ac), (wrap64 (a8 + 1)), sd, H', ⟨by have := az.out; have := aA.out; omega⟩, ⟨rs aa⟩, ⟨rb HB⟩⟩
)
| (
have q_ := cI
go_wp2
repeat (go_quiet (fail); try go_wp2)
go_roundg k2
case measure => have := az.out; have := aA.out; omega
case rel => exact ⟨(wrap64 (a8 + 1)), sd, H', ⟨by have := az.out; have := aA.out; omega⟩, ⟨rs aa⟩, ⟨rb HB⟩⟩
)
)
)
)
)
·(
rw [if_neg c6] at H
have bS : decide (a9 < (l2.length : Int)) = false := decide_eq_false c6
clear c6
obtain rfl := Option.some.inj H
go_wp2
repeat (go_quiet (fail); try go_wp2)
go_ret
exact ⟨_, ew, qS_ aa, rb HB⟩
)
)
)
)

end Go.Proofs.Ytalopdcephohgaa.RD

namespace Go.Proofs.Ytalopdcephohgaa.RD
open Go.RowKit Go.Proofs.YtalopdcephohgaaW.PrintWords Go.Proofs.YtalopdcephohgaaW.PrintLast Go.Proofs.YtalopdcephohgaaW.PrintMore
attribute [local go_sem] max2_int min2_int max_two min_two max_three min_three max_four min_four   -- for this text's walks alone
set_option linter.unusedVariables false
set_option linter.unusedSimpArgs false

/-! ### impl_Diff: function 33 -/
mutual
def impl_Diff.j0 : Nat → Bool → Int → List (List (S98)) → Int → List (List (S98)) → Option (Int × Int × (List (S101)) × Bool)
 | 0, _, _, _, _, _ => none
 | k + 1, af, ac, ae, a9, a8 => if af = true then (some (0, 0, ([] : List (S101)), false)) else ((impl_Grid_resized.f k ac ae a9 (a8.length : Int)).bind fun aa => (impl_Diff.l0 k a8 (a8.length : Int) 0 a9 (a8.length : Int) ([] : List (S101)) aa.1 aa.2))
def impl_Diff.l0 : Nat → List (List (S98)) → Int → Int → Int → Int → List (S101) → Int → List (List (S98)) → Option (Int × Int × (List (S101)) × Bool)
 | 0, _, _, _, _, _, _, _, _ => none
 | k + 1, ah, ai, aa, ac, ae, a8, af, a9 => if aa < ai then (if 0 ≤ aa then (if aa < (ah.length : Int) then (if aa < (a9.length : Int) then ((impl_runs.f k aa (rd_L5 a9 aa) (rd_L5 ah aa)).bind fun ag => (if a8.length + ag.length < 3518437208883 then (impl_Diff.l0 k ah ai (wrap64 (aa + 1)) ac ae (a8 ++ ag) af a9) else (none))) else (none)) else (none)) else (none)) else (if (a8.length : Int) > 400 then (some (0, 0, ([] : List (S101)), false)) else (some (ac, ae, a8, true)))
end
def impl_Diff.f (k : Nat) (a8 : Int) (aa : List (List (S98))) (a9 : Int) (ac : List (List (S98))) : Option (Int × Int × (List (S101)) × Bool) := (impl_GridOk.f k a8 aa).bind fun ae => (if ae = true then ((impl_GridOk.f k a9 ac).bind fun af => (impl_Diff.j0 k (!af) a8 aa a9 ac)) else (impl_Diff.j0 k true a8 aa a9 ac))
theorem impl_Diff.mono_l : ∀ k, (∀ y0 y1 y2 y3 y4, LeO (impl_Diff.j0 k y0 y1 y2 y3 y4) (impl_Diff.j0 (k + 1) y0 y1 y2 y3 y4)) ∧ (∀ y0 y1 y2 y3 y4 y5 y6 y7, LeO (impl_Diff.l0 k y0 y1 y2 y3 y4 y5 y6 y7) (impl_Diff.l0 (k + 1) y0 y1 y2 y3 y4 y5 y6 y7))
 | 0 => ⟨fun _ _ _ _ _ r h => by simp [impl_Diff.j0] at h, fun _ _ _ _ _ _ _ _ r h => by simp [impl_Diff.l0] at h⟩
 | k + 1 => by
  obtain ⟨ih0, ih1⟩ := impl_Diff.mono_l k
  refine ⟨?_, ?_⟩
  ·intro y0 y1 y2 y3 y4
   unfold impl_Diff.j0
   repeat' first
   | (with_reducible exact ih0 _ _ _ _ _)
   | (with_reducible exact ih1 _ _ _ _ _ _ _ _)
   | (with_reducible exact impl_GridOk.mono _ _ _)
   | (with_reducible exact impl_Grid_resized.mono _ _ _ _ _)
   | (with_reducible exact impl_runs.mono _ _ _ _)
   | (with_reducible exact LeO.refl _)
   | (with_reducible exact LeO.none _)
   | (with_reducible refine LeO.ite ?_ ?_)
   | (with_reducible refine LeO.bind ?_ (fun _ => ?_))
  ·intro y0 y1 y2 y3 y4 y5 y6 y7
   unfold impl_Diff.l0
   repeat' first
   | (with_reducible exact ih0 _ _ _ _ _)
   | (with_reducible exact ih1 _ _ _ _ _ _ _ _)
   | (with_reducible exact impl_GridOk.mono _ _ _)
   | (with_reducible exact impl_Grid_resized.mono _ _ _ _ _)
   | (with_reducible exact impl_runs.mono _ _ _ _)
   | (with_reducible exact LeO.refl _)
   | (with_reducible exact LeO.none _)
   | (with_reducible refine LeO.ite ?_ ?_)
   | (with_reducible refine LeO.bind ?_ (fun _ => ?_))
theorem impl_Diff.mono : ∀ a0 a1 a2 a3 k, LeO (impl_Diff.f k a0 a1 a2 a3) (impl_Diff.f (k + 1) a0 a1 a2 a3) := by
 intro a0 a1 a2 a3 k
 obtain ⟨ih0, ih1⟩ := impl_Diff.mono_l k
 unfold impl_Diff.f
 repeat' first
   | (with_reducible exact ih0 _ _ _ _ _)
   | (with_reducible exact ih1 _ _ _ _ _ _ _ _)
   | (with_reducible exact impl_GridOk.mono _ _ _)
   | (with_reducible exact impl_Grid_resized.mono _ _ _ _ _)
   | (with_reducible exact impl_runs.mono _ _ _ _)
   | (with_reducible exact LeO.refl _)
   | (with_reducible exact LeO.none _)
   | (with_reducible refine LeO.ite ?_ ?_)
   | (with_reducible refine LeO.bind ?_ (fun _ => ?_))
def impl_Diff.T8 : Bool × List (List Nat × List Nat) := (true, [([], []), ([0], [0]), ([], []), ([], []), ([3], [3]), ([], []), ([4, 5], [4, 5]), ([6], [6]), ([], []), ([2, 7, 8], [2, 7, 8]), ([1, 9, 9], [1, 9]), ([0, 1, 2, 3, 4, 5, 6, 7, 8, 9, 10], []), ([11, 10, 10, 0, 1, 2, 3, 4, 5, 6, 7, 8, 9, 10], [10, 11])])
def impl_Diff.B8 : List Nat := [0, 1, 0, 0, 8, 0, 56, 120, 0, 508, 1023, 2047, 4095]
theorem impl_Diff.tab8 : rtab .any (opsOf Try.f33 8) = impl_Diff.T8 := by kernel_rfl
theorem impl_Diff.bits8 : waitsOk impl_Diff.T8.2 impl_Diff.B8 = true := by kernel_rfl
set_option maxHeartbeats 8000000 in
set_option maxRecDepth 100000 in
theorem impl_Diff.calls (k : Nat) (ap : Int) (ay : Option Addr) (aH : Nat) (ak : List (List (S98))) (al : Int) (b5 : Option Addr) (b6 : Nat) (ag : List (List (S98))) (r1 : Int) (r2 : Int) (r3 : List (S101)) (r4 : Bool) (w : World) (bT : Kd.C (Kd.slice 98 k98) w ay ak.length ak) (bR : ak.length ≤ aH) (bU : Kd.C (Kd.slice 98 k98) w b5 ag.length ag) (bS : ag.length ≤ b6) (h : impl_Diff.f k ap ak al ag = some (r1, r2, r3, r4)) :
  Calls Try.prog 33 #[.agg #[.int .i64 ap, .slice ay ak.length aH], .agg #[.int .i64 al, .slice b5 ag.length b6]] w fun e w' => ∃ v2_ : Value, e = .returned (.tuple #[.agg #[.int .i64 r1, .int .i64 r2, v2_], .bool r4]) ∧ Kd.S k101 101 w' w.heap.size (fun _ => True) v2_ r3 ∧ Below w.heap.size w w' := by
 (
have dA := Try.underlying58
have dz := Try.underlying53
have bl := am bT
have bi := am bR
clear bT bR
have bN := am bU
have cy := am bS
clear bU bS
have HB := am (Below.refl w.heap.size w)
have H := h
unfold impl_Diff.f at H
clear h
have ca := am H
clear H
go_enter Try.func33, Try.ntmps33
go_upto_region 1 with (first | (refine bx 2 #[.int .i64 ap, .slice ay ak.length aH] 58 ?_; intro bP hg w4 hbox hb; have a8 := am (hbox); have cq := am (gw hg (rb HB)); have dh := cq; replace HB := bs HB hb; clear hb hbox hg) | (refine bx 3 #[.int .i64 al, .slice b5 ag.length b6] 58 ?_; intro bQ hg w5 hbox hb; have a9 := am (hbox); have ct := am (gw hg (rb HB)); have di := ct; replace HB := bs HB hb; have az := am (nl hg (rk a8)); have bu := ns az; replace a8 := kk a8 hb; clear hb hbox hg) | (refine bx 4 #[.int .i64 0, .int .i64 0, .slice none 0 0] 53 ?_; intro aJ hg w6 hbox hb; have aa := am (hbox); have cu := am (gw hg (rb HB)); have dj := cu; replace HB := bs HB hb; have av := am (nl hg (rk a8)); have aT := ns av; replace a8 := kk a8 hb; have aA := am (nl hg (rk a9)); have aU := ns aA; replace a9 := kk a9 hb; clear hb hbox hg))
(try simp only [Act.put, List.setIfInBounds_toArray, List.set_cons_zero, List.set_cons_succ])
go_cut [17] (fun de wc => ∃ (kq : Nat) (b4 : Bool), de = .bool b4 ∧ Aside0 (impl_Diff.j0 kq b4 ap ak al ag = some (r1, r2, r3, r4)) ∧ Aside0 (kq ≤ k) ∧ Aside0 (wc.heap[bP]? = some (.cells #[.int .i64 ap, (.slice ay ak.length aH)] 58 (0, 0))) ∧ Aside0 (wc.heap[bQ]? = some (.cells #[.int .i64 al, (.slice b5 ag.length b6)] 58 (0, 0))) ∧ Aside0 (wc.heap[aJ]? = some (.cells #[.int .i64 0, .int .i64 0, (.slice none 0 0)] 53 (0, 0))) ∧ Aside0 (Below w.heap.size w wc))
case first => (
have H := ca.out
clear ca
obtain ⟨cQ, A7, H⟩ := bd H
(try dsimp only at H)
by_cases c8 : cQ = true
·(
subst c8
rw [if_pos rfl] at H
obtain ⟨ck, A9, H⟩ := bd H
(try dsimp only at H)
have H' := am H
clear H
have dC := nN az
have dD := nN av
have ee := z2 a8
go_wp2_with (first | ((with_reducible refine cg 48 rfl ?_); refine gl_ (some 11) Try.func48 #[.agg #[.int .i64 ap, .slice ay ak.length aH]] ?_; (with_reducible refine (impl_GridOk.calls k ap _ _ ak true _ ?side1 ?side2 A7.out).mono ?_); (case side1 => exact rc ((Kd.C_below bl.out HB.out))); (case side2 => exact bi.out); rintro e ek ⟨rfl, hb⟩; refine ⟨_, rfl, ?_⟩; replace a8 := kk a8 hb; replace a9 := kk a9 hb; replace aa := kk aa hb; replace HB := bs HB hb; (try clear hb); (try clear cf); (try clear hk); (try clear hi); have dE := nN aA; have ef := z2 a9) | (go_at_call 48; (with_reducible refine (impl_GridOk.calls k al _ _ ag ck _ ?side1 ?side2 A9.out).mono ?_); (case side1 => exact rc ((Kd.C_below bN.out HB.out))); (case side2 => exact cy.out); rintro e el ⟨rfl, hb⟩; replace a8 := kk a8 hb; replace a9 := kk a9 hb; replace aa := kk aa hb; replace HB := bs HB hb; (try clear hb); (try clear cf); (try clear hk); (try clear hi)))
go_meet
case rel => exact ⟨_, (!ck), sd, H', ⟨by first | omega | exact Nat.le_refl _⟩, ⟨rk a8⟩, ⟨rk a9⟩, ⟨rk aa⟩, ⟨rb HB⟩⟩
)
·(
replace c8 := Bool.eq_false_iff.mpr c8
subst c8
rw [if_neg (show ¬ (false = true) by decide)] at H
have H' := am H
clear H
have dF := nN az
have dG := nN av
have eg := z2 a8
go_wp2_with (first | ((with_reducible refine cg 48 rfl ?_); refine gl_ (some 11) Try.func48 #[.agg #[.int .i64 ap, .slice ay ak.length aH]] ?_; (with_reducible refine (impl_GridOk.calls k ap _ _ ak false _ ?side1 ?side2 A7.out).mono ?_); (case side1 => exact rc ((Kd.C_below bl.out HB.out))); (case side2 => exact bi.out); rintro e eo ⟨rfl, hb⟩; refine ⟨_, rfl, ?_⟩; replace a8 := kk a8 hb; replace a9 := kk a9 hb; replace aa := kk aa hb; replace HB := bs HB hb; (try clear hb); (try clear cf); (try clear hk); (try clear hi)))
go_meet
case rel => exact ⟨_, (true), sd, H', ⟨by first | omega | exact Nat.le_refl _⟩, ⟨rk a8⟩, ⟨rk a9⟩, ⟨rk aa⟩, ⟨rb HB⟩⟩
)
)
case rest => (
clear ca
obtain ⟨kq, b4, rfl, HA, cD, a8, a9, aa, HB⟩ := hcut
cases kq with
| zero => exact absurd HA.out (by simp [impl_Diff.j0])
| succ cj => (
have H := HA.out
clear HA
simp only [impl_Diff.j0] at H
by_cases bB : b4 = true
·(
subst bB
have H1 : (some (0, 0, ([] : List (S101)), false)) = some (r1, r2, r3, r4) := by rw [if_pos rfl] at H; exact H
clear H
have H := H1
clear H1
simp only [Option.some.injEq, Prod.mk.injEq] at H
obtain ⟨rfl, rfl, rfl, rfl⟩ := H
have dH := nN aT
have dI := nN aU
have eh := z3 aa
go_wp2
refine bodyPost_ret (results_ct rfl _ _ aJ 53 #[.int .i64 0, .int .i64 0, .slice none 0 0] (0, 0) _ rfl (rk aa) Try.underlying53 rfl (by kernel_rfl)) rfl ?_
exact ⟨_, ew, xn, rb HB⟩
)
·(
replace bB := Bool.eq_false_iff.mpr bB
subst bB
rw [if_neg (show ¬ (false = true) by decide)] at H
obtain ⟨⟨b8, ao⟩, cZ, H⟩ := bd H
(try dsimp only at H)
have H' := am H
clear H
have dJ := nN bu
have dK := nN aA
have cl := z2 a9
go_wp2_with (first | (refine bx 6 #[.int .i64 0, .int .i64 0, .slice none 0 0] 53 ?_; intro aM hg ep hbox hb; have af := am (hbox); have cv := am (gw hg (rb HB)); have dk := cv; replace HB := bs HB hb; have aQ := am (nl hg (rk a8)); have aC := ns aQ; replace a8 := kk a8 hb; have aR := am (nl hg (rk a9)); have aD := ns aR; replace a9 := kk a9 hb; have aV := am (nl hg (rk aa)); have aE := ns aV; replace aa := kk aa hb; clear hb hbox hg; have dL := nN aC; have dM := nN aD; have dN := nN aE; have cm := z3 af; have dO := nN av; have cn := z2 a8) | ((with_reducible refine cg 72 rfl ?_); refine gl_ (some 30) Try.func72 #[.agg #[.int .i64 ap, .slice ay ak.length aH], .int .i64 al, .int .i64 (ag.length : Int)] ?_; (with_reducible refine (impl_Grid_resized.calls cj ap _ _ ak al (ag.length : Int) b8 ao _ ?side1 ?side2 cZ.out).mono ?_); (case side1 => exact Kd.C_below bl.out (rb HB)); (case side2 => exact bi.out); rintro e er ⟨e9, rfl, bg, hb⟩; refine ⟨_, rfl, ?_⟩; have aY := am (Kd.S_lower (Sx_floor bg) (below_size (rb HB))); replace a8 := kk a8 hb; replace a9 := kk a9 hb; replace aa := kk aa hb; replace af := kk af hb; replace HB := bs HB hb; (try clear hb); (try clear cf); (try clear hk); (try clear hi); (try clear bg)) | (refine bx 7 #[.int .i64 0, .slice none 0 0] 58 ?_; intro bn hg es hbox hb; replace aY := am (Kd.S_below (rs aY) hb); have aj := am (hbox); have cw := am (gw hg (rb HB)); have dm := cw; replace HB := bs HB hb; have bt := am (nl hg (rk a8)); have bw := ns bt; replace a8 := kk a8 hb; have bv := am (nl hg (rk a9)); have bz := ns bv; replace a9 := kk a9 hb; have aW := am (nl hg (rk aa)); have bA := ns aW; replace aa := kk aa hb; have aG := am (nl hg (rk af)); have aX := ns aG; replace af := kk af hb; clear hb hbox hg; have dP := nN bw; have dQ := nN bz; have dR := nN bA; have dS := nN aX; have co := z2 aj; obtain ⟨bZ, bI, cM⟩ := Kd.S_slice aY.out; subst cM; have cp := z2 a9))
go_loopg [34] cj (fun kq df w' => ∃ (ae : Int) (ah : List (S101)) (au : Value), df = .int .i64 ae ∧ Aside0 (impl_Diff.l0 kq ag (ag.length : Int) ae al (ag.length : Int) ah b8 ao = some (r1, r2, r3, r4)) ∧ Aside0 (kq ≤ cj) ∧ Aside0 (Kd.S k101 101 w' w.heap.size (fun _ => True) au ah) ∧ Aside0 (Kd.S (Kd.slice 98 k98) 99 w' w.heap.size (fun _ => True) (.slice bZ ao.length bI) ao) ∧ Aside0 (w'.heap[bP]? = some (.cells #[.int .i64 ap, (.slice ay ak.length aH)] 58 (0, 0))) ∧ Aside0 (w'.heap[bQ]? = some (.cells #[.int .i64 al, (.slice b5 ag.length b6)] 58 (0, 0))) ∧ Aside0 (w'.heap[aJ]? = some (.cells #[.int .i64 0, .int .i64 0, (.slice none 0 0)] 53 (0, 0))) ∧ Aside0 (w'.heap[aM]? = some (.cells #[.int .i64 al, .int .i64 (ag.length : Int), au] 53 (0, 0))) ∧ Aside0 (w'.heap[bn]? = some (.cells #[.int .i64 b8, (.slice bZ ao.length bI)] 58 (0, 0))) ∧ Aside0 (Below w.heap.size w w'))
case atStart => exact ⟨(0), (([] : List (S101))), (.slice none 0 0), sd, H', ⟨Nat.le_refl _⟩, ⟨xn⟩, ⟨tS1 aY aj⟩, ⟨rk a8⟩, ⟨rk a9⟩, ⟨rk aa⟩, ⟨rk af⟩, ⟨rk aj⟩, ⟨rb HB⟩⟩
case round => (
clear H'
try clear bB
try clear cl
try clear cm
try clear cn
try clear co
try clear cp
try clear cl
try clear cm
try clear cn
try clear co
try clear cp
obtain ⟨ae, ah, au, rfl, HA, cE, ac, ai, a8, a9, aa, af, aj, HB⟩ := hrel
cases gk with
| zero => exact absurd HA.out (by simp [impl_Diff.l0])
| succ k2 => (
have H := HA.out
clear HA
simp only [impl_Diff.l0] at H
by_cases b9 : ae < (ag.length : Int)
·(
rw [if_pos b9] at H
have cA : decide (ae < (ag.length : Int)) = true := decide_eq_true b9
clear b9
refine em_ (p := 0 ≤ ae) (fun bD => ?db) (fun bD => ?da)
case' db => (
rw [if_pos bD] at H
have dp : decide (0 ≤ ae) = true := decide_eq_true bD
clear bD
refine em_ (p := ae < (ag.length : Int)) (fun bE => ?d9) (fun bE => ?d8)
case' d9 => (
rw [if_pos bE] at H
have dq : decide (ae < (ag.length : Int)) = true := decide_eq_true bE
clear bE
refine em_ (p := ae < (ao.length : Int)) (fun bF => ?d7) (fun bF => ?d6)
case' d7 => (
rw [if_pos bF] at H
have dr : decide (ae < (ao.length : Int)) = true := decide_eq_true bF
clear bF
obtain ⟨bq, d3, H⟩ := bd H
(try dsimp only at H)
refine em_ (p := ah.length + bq.length < 3518437208883) (fun bG => ?d5) (fun bG => ?d4)
case' d5 => (
rw [if_pos bG] at H
have LMc51 := am bG
clear bG
obtain ⟨bL, aZ⟩ : ∃ y_ : List (S101), y_ = (ah ++ bq) := ⟨_, rfl⟩
replace H : (impl_Diff.l0 k2 ag (ag.length : Int) (wrap64 (ae + 1)) al (ag.length : Int) bL b8 ao) = some (r1, r2, r3, r4) := by first | (rw [aZ]; with_reducible exact H) | (rw [aZ]; exact H) | exact H
have cz := am aZ
clear aZ
have H' := am H
clear H
have dB := trivial
)
case d4 => (
rw [if_neg bG] at H
exact absurd H (by simp)
)
)
case d6 => (
rw [if_neg bF] at H
exact absurd H (by simp)
)
)
case d8 => (
rw [if_neg bE] at H
exact absurd H (by simp)
)
)
case da => (
rw [if_neg bD] at H
exact absurd H (by simp)
)
all_goals (
have bJ : 0 ≤ (ae : Int) := dt_
have bK : ae < (ag.length : Int) := dt_
obtain ⟨dn, bY, cb, cK, bh, bc, ba⟩ := at_L5 bN.out ae bJ bK
cases cK
replace bh := mv HB.out bh
have bX := am ba
have bV := am bc
clear ba bc
replace bJ := eq_true bJ
replace bK := eq_true bK
try go_wp2
replace ac := am (Kd.S_drew ac.out)
replace ai := am (Kd.S_drew ai.out)
replace a8 := am (blk_drew a8.out)
replace a9 := am (blk_drew a9.out)
replace aa := am (blk_drew aa.out)
replace af := am (blk_drew af.out)
replace aj := am (blk_drew aj.out)
replace HB := am (below_drew1 HB.out)
have bo : 0 ≤ (ae : Int) := dt_
have bp : ae < (ao.length : Int) := dt_
obtain ⟨bO, br, bC, cL, aP, bf, bb⟩ := at_L5 (Kd.S_reads' ai.out).2.2 ae bo bp
cases cL
obtain ⟨dt, ch, hMe437, bH⟩ := Kd.S_get ai.out [] ae bo (by first | exact bp | exact dt_ | (have e_ := (Kd.S_reads' ai.out).1; omega))
obtain ⟨ve437_0, rfl, aN⟩ := hMe437
have ax := bH 0 _ rfl
rw [Nat.add_zero, show ((Kd.slice 98 k98)).sz = 1 from rfl, Nat.mul_one] at ax
replace ax := Option.some.inj (ax.symm.trans aP)
rw [ax] at aN
have aq := am (show Kd.R k98 98 _ _ _ _ (rd_L5 ao ae) from aN)
clear ax aN
clear bH ch
have aI := am bb
have bW := am bf
clear bb bf
replace bo := eq_true bo
replace bp := eq_true bp
refine start_ (n := 13) (S := fun w' => w'.cell? ⟨aM, 0, none⟩ = some (.int .i64 al) ∧ w'.cell? ⟨aM, 1, none⟩ = some (.int .i64 (ag.length : Int)) ∧ w'.cell? ⟨aM, 2, none⟩ = some (au) ∧ w'.cell? ⟨bn, 0, none⟩ = some (.int .i64 b8) ∧ w'.cell? ⟨bn, 1, none⟩ = some (.slice (some bO) ao.length bI) ∧ w'.cell? (bO.add (ae).toNat) = some (.slice br (rd_L5 ao ae).length bC)) (ds := [10, 12]) (bm 13 0) (by kernel_rfl) rfl rfl ⟨(blk_cell af.out 0).trans rfl, (blk_cell af.out 1).trans rfl, (blk_cell af.out 2).trans rfl, (blk_cell aj.out 0).trans rfl, (blk_cell aj.out 1).trans rfl, aP⟩ (fun hHeld => ?_); refine with_tabW impl_Diff.tab8 impl_Diff.bits8 (fun HT_ HW_ => ?_)
generalize wr.drew = eu at ac ai a8 a9 aa af aj HB aq aI aP hHeld ⊢
refine pu_ 0 39 (bm 13 1) HT_.out ?_
refine pu_ 2 41 (bm 13 5) HT_.out ?_
refine pu_ 3 42 (bm 13 13) HT_.out ?_
refine pu_ 5 44 (bm 13 45) HT_.out ?_
refine pu_ 8 47 (bm 13 301) HT_.out ?_
refine tk 1 40 (bm 13 303) HT_ HW_ hHeld ?_
refine tk 4 43 (bm 13 319) HT_ HW_ hHeld ?_
refine pu_ 6 45 (bm 13 383) HT_.out ?_
refine tk 7 46 (bm 13 511) HT_ HW_ hHeld ?_
refine o1 9 48 (bm 13 1023) HT_ (fun K hK => ?_)
refine gs Try.func73 #[.int .i64 ae, .slice br (rd_L5 ao ae).length bC, .slice bY (rd_L5 ag ae).length cb] ?_
with_reducible refine (impl_runs.calls k2 ae _ _ (rd_L5 ao ae) _ _ (rd_L5 ag ae) bq _ ?side1 ?side2 ?side3 ?side4 d3.out).mono ?_
(case side1 => repeat (first | exact (rc aI.out) | (with_reducible refine Kd.C_alloc ?_ _) | (with_reducible refine Kd.C_drewN ?_ _) | (with_reducible refine Kd.C_drew ?_)))
(case side2 => exact bW.out)
(case side3 => exact rc ((Kd.C_below bX.out HB.out)))
(case side4 => exact bV.out)
rintro e ev ⟨eb, rfl, bg, hb⟩
have cH := (mv hb (hHeld.2.2.2.2.2))
refine ⟨_, rfl, ?_⟩
replace ai := am (Kd.S_below (Sx_cap (rs ai)) hb)
have bj := am (Kd.S_lower (Kd.S_new' (Kd.S_new' (Sx_floor bg) (Kd.S_lt (rs ac))) (Kd.R_lt (rr aq))) (below_size (rb HB)))
replace ac := am (Kd.S_elder' (Sx_cap (rs ac)) (Kd.S_base bg) hb)
replace aq := am (Kd.R_below (rr aq) hb)
replace a8 := kk a8 hb
replace a9 := kk a9 hb
replace aa := kk aa hb
replace af := kk af hb
replace aj := kk aj hb
replace aI := am (Kd.C_below (rc aI.out) hb)
replace HB := bs HB hb
(try clear hb)
(try clear bg)
obtain ⟨dv, dx, cd⟩ := Kd.S_slice bj.out
(first | subst cd | (injection cd with f1_ f2_ f3_; have f4_ := f1_.symm; have f5_ := f3_.symm; clear f1_ f2_ f3_; subst f4_; subst f5_))
refine hK.out _ _ ⟨(blk_cell af.out 0).trans rfl, (blk_cell af.out 1).trans rfl, (blk_cell af.out 2).trans rfl, (blk_cell aj.out 0).trans rfl, (blk_cell aj.out 1).trans rfl, cH⟩ (fun hHeld => ?_)
clear hK K
refine norm_ (a' := _) (show Act.put _ (some 48) _ = _ from na) ?_
refine last_ (i := 10) (N := some 49) (bm 13 2047) rfl rfl (one_of HT_.out (by kernel_rfl)) (by decide) (fun K hK => ?_)
refine Kd.S_append_rows_step k101 (w0 := w) w.heap.size (by rfl) (.tmp 40) (.tmp 48) 51 101 (.agg #[(.int .i64 0), (.int .i64 0), (.slice none 0 0)]) 40 rfl Try.underlying51 info101 rfl (by decide) (by omega) au ah bq _ _ _ (fun _ => True) _ rfl rfl ?aO (rs bj) ?aK ?aF ?aB ?aS ?aL ?_
(case aK => exact fun k_ hk => ⟨trivial, hk.1.2⟩)
(case aB => exact (rb HB))
(case aF => exact (fun _ _ => trivial))
(case aO => exact (by (with_reducible repeat (first | apply Kd.S_alloc | apply Kd.S_drewN | apply Kd.S_drew)); exact Kd.S_mono ac.out (fun k_ hk => ⟨trivial, fun e_ => Nat.not_lt.2 (e_.1.1.2) (hk.1.2)⟩)))
(case aS => exact (below_size (rb HB)))
(case aL => have := LMc51.out; omega)
intro ed dg ho hb hg hat
rw [← cz.out] at ho
replace ai := am (Kd.S_over' (rs ai) (Kd.S_typed (rs ac)) (by decide) hg)
replace a8 := am (blk_grown (rk a8) hg (Kd.S_ne ac.out a8.out (by decide)))
replace a9 := am (blk_grown (rk a9) hg (Kd.S_ne ac.out a9.out (by decide)))
replace aa := am (blk_grown (rk aa) hg (Kd.S_ne ac.out aa.out (by decide)))
replace af := am (blk_grown (rk af) hg (Kd.S_ne ac.out af.out (by decide)))
replace aj := am (blk_grown (rk aj) hg (Kd.S_ne ac.out aj.out (by decide)))
replace aq := am (Kd.R_over' (rr aq) (Kd.S_typed (rs ac)) (by decide) hg)
replace HB := am (hb)
have bM := am (ho)
clear ac bj
clear ho hb hg hat
obtain ⟨cF, cI, ce⟩ := Kd.S_slice bM.out
(first | subst ce | (injection ce with f1_ f2_ f3_; have f4_ := f1_.symm; have f5_ := f3_.symm; clear f1_ f2_ f3_; subst f4_; subst f5_))
refine hK.out _ _ ?_
clear hK K
refine norm_ (a' := _) (show Act.put _ (some 49) _ = _ from na) ?_
refine pu_ 11 50 (bm 13 4095) HT_.out ?_
refine last_ (i := 12) (N := none) (bm 13 8191) rfl rfl (one_of HT_.out (by kernel_rfl)) (by decide) (fun K hK => ?_)
have dy : dg.cell? ⟨aM, 2, none⟩ = some (au) := (blk_cell af.out 2).trans rfl
have du := blk_frozen af.out 2
have cV := aQ.out
have cW := aR.out
have cX := aV.out
have cY := aX.out
have cR := aC.out
have cS := aD.out
have cT := aE.out
have cU := aG.out
refine skip_ (w1 := ?_) (by rfl) rfl ?_ ?_
rotate_left
·(
go_simp
rfl
)
refine hK.out _ _ ?_
clear hK K
refine done_ (done_of HT_.out (by kernel_rfl)) ?_
try go_wp2
go_roundg k2
case measure => have := cD.out; have := cE.out; omega
case rel => exact ⟨(wrap64 (ae + 1)), (bL), (.slice cF bL.length cI), sd, H', ⟨by have := cD.out; have := cE.out; omega⟩, ⟨tS1 bM af⟩, ⟨tS1 ai af⟩, ⟨rk a8⟩, ⟨rk a9⟩, ⟨rk aa⟩, ⟨rk af⟩, ⟨rk aj⟩, ⟨rb HB⟩⟩
)
)
·(
rw [if_neg b9] at H
have cA : decide (ae < (ag.length : Int)) = false := decide_eq_false b9
clear b9
refine em_ (p := (ah.length : Int) > 400) (fun b7 => ?dd) (fun b7 => ?dc)
case' dd => (
rw [if_pos b7] at H
have cB : decide (400 < (ah.length : Int)) = true := decide_eq_true b7
have cC : decide (400 < ah.length) = true := decide_eq_true (by omega)
clear b7
simp only [Option.some.injEq, Prod.mk.injEq] at H
obtain ⟨rfl, rfl, rfl, rfl⟩ := H
have cO := trivial
)
case' dc => (
rw [if_neg b7] at H
have cB : decide (400 < (ah.length : Int)) = false := decide_eq_false b7
have cC : decide (400 < ah.length) = false := decide_eq_false (by omega)
clear b7
simp only [Option.some.injEq, Prod.mk.injEq] at H
obtain ⟨rfl, rfl, rfl, rfl⟩ := H
have cP := trivial
)
all_goals (
have dU := nN aC
have dV := nN aD
have dW := nN aE
have dX := nN aG
have ei := z3 af
obtain ⟨cG, cJ, cN⟩ := Kd.S_slice ac.out
subst cN
have dY := nN aT
have dZ := nN aU
have e8 := nN aW
have ej := z3 aa
go_wp2
first
| (
have q_ := cP
refine bodyPost_ret (results_ct rfl _ _ aJ 53 #[.int .i64 al, .int .i64 (ag.length : Int), .slice cG ah.length cJ] (0, 0) _ rfl (rk aa) Try.underlying53 rfl (by kernel_rfl)) rfl ?_
exact ⟨_, ew, tS1 ac aa, rb HB⟩
)
| (
have q_ := cO
refine bodyPost_ret (results_ct rfl _ _ aJ 53 #[.int .i64 0, .int .i64 0, .slice none 0 0] (0, 0) _ rfl (rk aa) Try.underlying53 rfl (by kernel_rfl)) rfl ?_
exact ⟨_, ew, xn, rb HB⟩
)
)
)
)
)
)
)
)
)

end Go.Proofs.Ytalopdcephohgaa.RD
