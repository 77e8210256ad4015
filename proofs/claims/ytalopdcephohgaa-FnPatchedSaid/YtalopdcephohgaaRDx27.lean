/- Contracts of Go functions that laws of this seat reach: each Lean function answers as its Go function does. No condition. Written by wip/tools/inj.py, over the kit's print. -/
import Derived.Test.YtalopdcephohgaaRDx0
import Derived.Test.YtalopdcephohgaaRDx8
import Derived.Test.YtalopdcephohgaaRDx24
import Derived.Test.YtalopdcephohgaaRDx25
import Derived.Test.YtalopdcephohgaaRDx26
namespace Go.Proofs.Ytalopdcephohgaa.RD
open Go.RowKit Go.Proofs.YtalopdcephohgaaW.PrintWords Go.Proofs.YtalopdcephohgaaW.PrintLast Go.Proofs.YtalopdcephohgaaW.PrintMore
attribute [local go_sem] max2_int min2_int max_two min_two max_three min_three max_four min_four   -- for this text's walks alone
set_option linter.unusedVariables false
set_option linter.unusedSimpArgs false

/-! ### spec_l4DrawAny: function 115 -/
def spec_l4DrawAny.f (k : Nat) (ae : List Int) (al : Int) (ao : Int) : Option ((List (S98)) × Int × Int) := (spec_l1Below.f ae al ao 9).bind fun ah => ((spec_l4Draw.f k ae ah.2.1 ah.2.2 (wrap64 (1 + ah.1))).bind fun a8 => ((spec_l1Once.f ae a8.2.1 a8.2.2 12).bind fun af => (if af.1 = true then ((spec_l1Below.f ae af.2.1 af.2.2 (a8.1.length : Int)).bind fun a9 => (if 0 ≤ a9.1 then (if a9.1 < (a8.1.length : Int) then ((spec_l1Below.f ae a9.2.1 a9.2.2 4).bind fun aa => (if aa.1 = 0 then ((spec_l1From.f ae aa.2.1 aa.2.2 (-1) 4).bind fun ai => (some ((a8.1.set (a9.1 : Int).toNat (⟨(rd_T98 a8.1 a9.1).f0, (⟨(rd_T98 a8.1 a9.1).f1.f0, (rd_T98 a8.1 a9.1).f1.f1, (rd_T98 a8.1 a9.1).f1.f2, (rd_T98 a8.1 a9.1).f1.f3, (rd_T98 a8.1 a9.1).f1.f4⟩ : S96), ai.1⟩ : S98)), ai.2.1, ai.2.2))) else (if aa.1 = 1 then ((some (([0, 10, 19968, (-1)] : List Int) : List Int)).bind fun ak => ((spec_l1Below.f ae aa.2.1 aa.2.2 4).bind fun ag => (if 0 ≤ ag.1 then (if ag.1 < (ak.length : Int) then (some ((a8.1.set (a9.1 : Int).toNat (⟨rd ak ag.1, (⟨(rd_T98 a8.1 a9.1).f1.f0, (rd_T98 a8.1 a9.1).f1.f1, (rd_T98 a8.1 a9.1).f1.f2, (rd_T98 a8.1 a9.1).f1.f3, (rd_T98 a8.1 a9.1).f1.f4⟩ : S96), (rd_T98 a8.1 a9.1).f2⟩ : S98)), ag.2.1, ag.2.2)) else (none)) else (none)))) else (if aa.1 = 2 then ((spec_l3DrawAny.f ae aa.2.1 aa.2.2).bind fun ac => (some ((a8.1.set (a9.1 : Int).toNat (⟨(rd_T98 a8.1 a9.1).f0, (⟨ac.1, ac.2.1, ac.2.2.1, ac.2.2.2.1, ac.2.2.2.2.1⟩ : S96), (rd_T98 a8.1 a9.1).f2⟩ : S98)), ac.2.2.2.2.2.1, ac.2.2.2.2.2.2))) else (if aa.1 = 3 then ((spec_l1Below.f ae aa.2.1 aa.2.2 2).bind fun aj => ((spec_l4Row.f k (wrap64 (60 + aj.1)) 0 0 false false false).bind fun ap => (some (ap, aj.2.1, aj.2.2)))) else (some (a8.1, aa.2.1, aa.2.2))))))) else (none)) else (none))) else (some (a8.1, af.2.1, af.2.2)))))
theorem spec_l4DrawAny.mono : ∀ a0 a1 a2 k, LeO (spec_l4DrawAny.f k a0 a1 a2) (spec_l4DrawAny.f (k + 1) a0 a1 a2) := by
 intro a0 a1 a2 k
 unfold spec_l4DrawAny.f
 repeat' first
   | (with_reducible exact spec_l4Draw.mono _ _ _ _ _)
   | (with_reducible exact spec_l4Row.mono _ _ _ _ _ _ _)
   | (with_reducible exact LeO.refl _)
   | (with_reducible exact LeO.none _)
   | (with_reducible refine LeO.ite ?_ ?_)
   | (with_reducible refine LeO.bind ?_ (fun _ => ?_))
set_option maxHeartbeats 8000000 in
set_option maxRecDepth 100000 in
theorem spec_l4DrawAny.calls (k : Nat) (g : Nat) (ae : List Int) (bu : Int) (bv : Int) (r1 : List (S98)) (r2 : Int) (r3 : Int) (w0 w : World) (hI : IsS118 w0 w g ae bu bv) (hB : Below w0.heap.size w0 w) (h : spec_l4DrawAny.f k ae bu bv = some (r1, r2, r3)) :
  Calls Try.prog 115 #[.pointer (some ⟨g, 0, none⟩)] w fun e w' => ∃ v0_ : Value, e = .returned (v0_) ∧ Kd.R k98 98 w' w.heap.size (fun _ => True) v0_ r1 ∧ IsS118 w0 w' g ae r2 r3 ∧ Below w0.heap.size w0 w' ∧ KeepBut w w' g none := by
 (
have f7 := Try.underlying96
have ac := am hI
have HK := am (KeepBut.refl w g none)
have HL := am hB.size
clear hI
have fb := am hB.size
have HB := am hB
clear hB
have H := h
unfold spec_l4DrawAny.f at H
clear h
obtain ⟨⟨bw, ct, cu⟩, A2, H⟩ := bd H
(try dsimp only at H)
obtain ⟨⟨a9, b9, ba⟩, A3, H⟩ := bd H
(try dsimp only at H)
obtain ⟨⟨dc, bg, bh⟩, A4, H⟩ := bd H
(try dsimp only at H)
refine em_ (p := dc = true) (fun c5 => ?dH) (fun c5 => ?dG)
case' dH => (
subst c5
rw [if_pos rfl] at H
obtain ⟨⟨a8, bz, bA⟩, A6, H⟩ := bd H
(try dsimp only at H)
refine em_ (p := 0 ≤ a8) (fun c7 => ?dF) (fun c7 => ?dE)
case' dF => (
rw [if_pos c7] at H
have eQ : decide (0 ≤ a8) = true := decide_eq_true c7
clear c7
refine em_ (p := a8 < (a9.length : Int)) (fun c8 => ?dD) (fun c8 => ?dC)
case' dD => (
rw [if_pos c8] at H
have eR : decide (a8 < (a9.length : Int)) = true := decide_eq_true c8
clear c8
obtain ⟨⟨ag, ap, aq⟩, A9, H⟩ := bd H
(try dsimp only at H)
refine em_ (p := ag = 0) (fun aV => ?dB) (fun aV => ?dA)
case' dB => (
rw [if_pos aV] at H
have cM : (ag == 0) = true := beq_iff_eq.mpr aV
have cN : (ag != 0) = false := bne_eq_false_iff_eq.mpr aV
clear aV
obtain ⟨⟨aP, cv, cw⟩, dh, H⟩ := bd H
(try dsimp only at H)
obtain ⟨cF, aZ⟩ : ∃ y_ : List (S98), y_ = (a9.set (a8 : Int).toNat (⟨(rd_T98 a9 a8).f0, (⟨(rd_T98 a9 a8).f1.f0, (rd_T98 a9 a8).f1.f1, (rd_T98 a9 a8).f1.f2, (rd_T98 a9 a8).f1.f3, (rd_T98 a9 a8).f1.f4⟩ : S96), aP⟩ : S98)) := ⟨_, rfl⟩
replace H : (some (cF, cv, cw)) = some (r1, r2, r3) := by first | (rw [aZ]; with_reducible exact H) | (rw [aZ]; exact H) | exact H
have cJ := am aZ
clear aZ
simp only [Option.some.injEq, Prod.mk.injEq] at H
obtain ⟨rfl, rfl, rfl⟩ := H
have d6 := trivial
)
case' dA => (
rw [if_neg aV] at H
have cM : (ag == 0) = false := beq_eq_false_iff_ne.mpr aV
have cN : (ag != 0) = true := bne_iff_ne.mpr aV
refine em_ (p := ag = 1) (fun aW => ?dz) (fun aW => ?dy)
case' dz => (
rw [if_pos aW] at H
have cO : (ag == 1) = true := beq_iff_eq.mpr aW
have cP : (ag != 1) = false := bne_eq_false_iff_eq.mpr aW
clear aW
obtain ⟨aB, b4⟩ : ∃ y_ : List Int, y_ = (([0, 10, 19968, (-1)] : List Int)) := ⟨_, rfl⟩
replace H : ((spec_l1Below.f ae ap aq 4).bind fun aH => (if 0 ≤ aH.1 then (if aH.1 < (aB.length : Int) then (some ((a9.set (a8 : Int).toNat (⟨rd aB aH.1, (⟨(rd_T98 a9 a8).f1.f0, (rd_T98 a9 a8).f1.f1, (rd_T98 a9 a8).f1.f2, (rd_T98 a9 a8).f1.f3, (rd_T98 a9 a8).f1.f4⟩ : S96), (rd_T98 a9 a8).f2⟩ : S98)), aH.2.1, aH.2.2)) else (none)) else (none))) = some (r1, r2, r3) := by first | (rw [b4]; with_reducible exact H) | (rw [b4]; exact H) | exact H
have bC := am b4
clear b4
obtain ⟨⟨aj, cy, cz⟩, di, H⟩ := bd H
(try dsimp only at H)
refine em_ (p := 0 ≤ aj) (fun bi => ?dr) (fun bi => ?dq)
case' dr => (
rw [if_pos bi] at H
have eJ : decide (0 ≤ aj) = true := decide_eq_true bi
clear bi
refine em_ (p := aj < (aB.length : Int)) (fun bj => ?dp) (fun bj => ?dn)
case' dp => (
rw [if_pos bj] at H
have eK : decide (aj < (aB.length : Int)) = true := decide_eq_true bj
clear bj
obtain ⟨cG, b5⟩ : ∃ y_ : List (S98), y_ = (a9.set (a8 : Int).toNat (⟨rd aB aj, (⟨(rd_T98 a9 a8).f1.f0, (rd_T98 a9 a8).f1.f1, (rd_T98 a9 a8).f1.f2, (rd_T98 a9 a8).f1.f3, (rd_T98 a9 a8).f1.f4⟩ : S96), (rd_T98 a9 a8).f2⟩ : S98)) := ⟨_, rfl⟩
replace H : (some (cG, cy, cz)) = some (r1, r2, r3) := by first | (rw [b5]; with_reducible exact H) | (rw [b5]; exact H) | exact H
have cK := am b5
clear b5
simp only [Option.some.injEq, Prod.mk.injEq] at H
obtain ⟨rfl, rfl, rfl⟩ := H
have d7 := trivial
)
case dn => (
rw [if_neg bj] at H
exact absurd H (by simp)
)
)
case dq => (
rw [if_neg bi] at H
exact absurd H (by simp)
)
)
case' dy => (
rw [if_neg aW] at H
have cO : (ag == 1) = false := beq_eq_false_iff_ne.mpr aW
have cP : (ag != 1) = true := bne_iff_ne.mpr aW
refine em_ (p := ag = 2) (fun aX => ?dx) (fun aX => ?dv)
case' dx => (
rw [if_pos aX] at H
have cQ : (ag == 2) = true := beq_iff_eq.mpr aX
have cR : (ag != 2) = false := bne_eq_false_iff_eq.mpr aX
clear aX
obtain ⟨⟨aQ, aR, aS, aT, aU, cA, cB⟩, dj, H⟩ := bd H
(try dsimp only at H)
obtain ⟨cH, b6⟩ : ∃ y_ : List (S98), y_ = (a9.set (a8 : Int).toNat (⟨(rd_T98 a9 a8).f0, (⟨aQ, aR, aS, aT, aU⟩ : S96), (rd_T98 a9 a8).f2⟩ : S98)) := ⟨_, rfl⟩
replace H : (some (cH, cA, cB)) = some (r1, r2, r3) := by first | (rw [b6]; with_reducible exact H) | (rw [b6]; exact H) | exact H
have cL := am b6
clear b6
simp only [Option.some.injEq, Prod.mk.injEq] at H
obtain ⟨rfl, rfl, rfl⟩ := H
have d8 := trivial
)
case' dv => (
rw [if_neg aX] at H
have cQ : (ag == 2) = false := beq_eq_false_iff_ne.mpr aX
have cR : (ag != 2) = true := bne_iff_ne.mpr aX
refine em_ (p := ag = 3) (fun aY => ?du) (fun aY => ?dt)
case' du => (
rw [if_pos aY] at H
have cS : (ag == 3) = true := beq_iff_eq.mpr aY
have cT : (ag != 3) = false := bne_eq_false_iff_eq.mpr aY
clear aY
obtain ⟨⟨bB, dd, de⟩, dk, H⟩ := bd H
(try dsimp only at H)
obtain ⟨df, dm, H⟩ := bd H
(try dsimp only at H)
simp only [Option.some.injEq, Prod.mk.injEq] at H
obtain ⟨rfl, rfl, rfl⟩ := H
have d9 := trivial
)
case' dt => (
rw [if_neg aY] at H
have cS : (ag == 3) = false := beq_eq_false_iff_ne.mpr aY
have cT : (ag != 3) = true := bne_iff_ne.mpr aY
simp only [Option.some.injEq, Prod.mk.injEq] at H
obtain ⟨rfl, rfl, rfl⟩ := H
have da := trivial
)
)
)
)
)
case dC => (
rw [if_neg c8] at H
exact absurd H (by simp)
)
)
case dE => (
rw [if_neg c7] at H
exact absurd H (by simp)
)
)
case' dG => (
replace c5 := Bool.eq_false_iff.mpr c5
subst c5
rw [if_neg (show ¬ (false = true) by decide)] at H
simp only [Option.some.injEq, Prod.mk.injEq] at H
obtain ⟨rfl, rfl, rfl⟩ := H
have db := trivial
)
all_goals (
go_enter Try.func115, Try.ntmps115
go_wp2_with (first | ((with_reducible refine cg 128 rfl ?_); refine gl_ (some 41) Try.func128 #[.pointer (some ⟨g, 0, none⟩)] ?_; (with_reducible refine (spec_l3DrawAny.calls g ae ap aq aQ aR aS aT aU cA cB w0 _ ?side1 ?side2 dj.out).mono ?_); (case side1 => exact ri118 ac); (case side2 => exact rbi HB); rintro e ao ⟨rfl, hi, hb, hk⟩; refine ⟨_, rfl, ?_⟩; replace aa := am (Kd.R_mono (Kd.R_keep (IsS118.apart (show IsS118 w0 _ g ae ap aq from ri118 ac) (rr aa) (by decide)) hk (fun _ h => h.2)) (fun _ h => h.1)); replace HK := kt HK hk; replace HB := am (hb); replace ac := am (hi); (try clear hb); (try clear aF); (try clear hk); (try clear hi); have cn : 0 ≤ (a8 : Int) := dt_; have cq : (a8 : Int) < ((a9.length : Int) : Int) := dt_; obtain ⟨af, f6, bQ, bT, gl41, cl41, bK⟩ := Kd.R_form aa.out (by omega); (first | cases bQ | (injection bQ with ea_ en_ ec_; (first | subst ea_ | (injection ea_ with ea_; subst ea_)); subst ec_; clear en_)); have b7 := am bT; have eP := am bK; clear bT gl41 bK; (try simp only [add_plain] at aI aJ aK aL aM aN aO); obtain ⟨eW, cW, hM41, ax, aA⟩ := Kd.R_elem aa.out z98 (a8 : Int) cn cq; obtain rfl := k98_openM hM41; have ex : ao.cell? ⟨af, (a8 : Int).toNat * 7, none⟩ = some (.int .i64 ((rd_T98 a9 a8).f0)) := ax 0 _ rfl; have ey : ao.cell? ⟨af, (a8 : Int).toNat * 7 + 1, none⟩ = some (.int .i64 ((rd_T98 a9 a8).f1.f0)) := ax 1 _ rfl; have ez : ao.cell? ⟨af, (a8 : Int).toNat * 7 + 2, none⟩ = some (.int .i64 ((rd_T98 a9 a8).f1.f1)) := ax 2 _ rfl; have eA : ao.cell? ⟨af, (a8 : Int).toNat * 7 + 3, none⟩ = some (.bool ((rd_T98 a9 a8).f1.f2)) := ax 3 _ rfl; have eB : ao.cell? ⟨af, (a8 : Int).toNat * 7 + 4, none⟩ = some (.bool ((rd_T98 a9 a8).f1.f3)) := ax 4 _ rfl; have eC : ao.cell? ⟨af, (a8 : Int).toNat * 7 + 5, none⟩ = some (.bool ((rd_T98 a9 a8).f1.f4)) := ax 5 _ rfl; have eD : ao.cell? ⟨af, (a8 : Int).toNat * 7 + 6, none⟩ = some (.int .i64 ((rd_T98 a9 a8).f2)) := ax 6 _ rfl; have dX : ao.frozen? ⟨af, (a8 : Int).toNat * 7, none⟩ = false := aA 0; have dY : ao.frozen? ⟨af, (a8 : Int).toNat * 7 + 1, none⟩ = false := aA 1; have dZ : ao.frozen? ⟨af, (a8 : Int).toNat * 7 + 2, none⟩ = false := aA 2; have e8 : ao.frozen? ⟨af, (a8 : Int).toNat * 7 + 3, none⟩ = false := aA 3; have e9 : ao.frozen? ⟨af, (a8 : Int).toNat * 7 + 4, none⟩ = false := aA 4; have eb : ao.frozen? ⟨af, (a8 : Int).toNat * 7 + 5, none⟩ = false := aA 5; have ed : ao.frozen? ⟨af, (a8 : Int).toNat * 7 + 6, none⟩ = false := aA 6; clear cW ax aA hM41; replace cn := eq_true cn; replace cq := eq_true cq; have bN := am (show Kd.R k98 98 ao w.heap.size (fun _ => True) (.slice (some ⟨af, 0, none⟩) a9.length aG) a9 from (rr aa)); obtain ⟨eX, bF, hM49, aC, aE⟩ := Kd.R_elem bN.out z98 (a8 : Int) dt_ (by have h_ : (a8 : Int) < ((a9.length : Int) : Int) := dt_; first | exact h_ | (have e_ := (Kd.R_reads' aa.out).1; omega) | simpa using h_); obtain rfl := k98_openM hM49; have bo := Kd.R_seg bN.out (a8 : Int) dt_ (by have h_ : (a8 : Int) < ((a9.length : Int) : Int) := dt_; first | exact h_ | (have e_ := (Kd.R_reads' aa.out).1; omega) | simpa using h_) (seg := [.int .i64 aQ, .int .i64 aR, .bool aS, .bool aT, .bool aU]) (j := 1) bF aC (show 6 ≤ 7 from by decide) (x' := (⟨(rd_T98 a9 a8).f0, (⟨aQ, aR, aS, aT, aU⟩ : S96), (rd_T98 a9 a8).f2⟩ : S98)) (k98_mkM _ _ _ (⟨(rd_T98 a9 a8).f0, (⟨aQ, aR, aS, aT, aU⟩ : S96), (rd_T98 a9 a8).f2⟩ : S98) ) (fun _ hk => hk); have ce := aC 1 _ rfl; (try simp only [show (k98).sz = 7 from rfl, Nat.mul_one, Nat.add_zero] at ce); have bW := aE 1; (try simp only [show (k98).sz = 7 from rfl, Nat.mul_one, Nat.add_zero] at bW); have cf := aC 2 _ rfl; (try simp only [show (k98).sz = 7 from rfl, Nat.mul_one, Nat.add_zero] at cf); have bX := aE 2; (try simp only [show (k98).sz = 7 from rfl, Nat.mul_one, Nat.add_zero] at bX); have ch := aC 3 _ rfl; (try simp only [show (k98).sz = 7 from rfl, Nat.mul_one, Nat.add_zero] at ch); have bY := aE 3; (try simp only [show (k98).sz = 7 from rfl, Nat.mul_one, Nat.add_zero] at bY); have cj := aC 4 _ rfl; (try simp only [show (k98).sz = 7 from rfl, Nat.mul_one, Nat.add_zero] at cj); have bZ := aE 4; (try simp only [show (k98).sz = 7 from rfl, Nat.mul_one, Nat.add_zero] at bZ); have ck := aC 5 _ rfl; (try simp only [show (k98).sz = 7 from rfl, Nat.mul_one, Nat.add_zero] at ck); have ca := aE 5; (try simp only [show (k98).sz = 7 from rfl, Nat.mul_one, Nat.add_zero] at ca); clear bF aC aE hM49) | ((with_reducible refine cg 52 rfl ?_); refine gl_ (some 32) Try.func52 #[.pointer (some ⟨g, 0, none⟩), .int .i64 4] ?_; (with_reducible refine (spec_l1Below.calls g ae ap aq 4 aj cy cz w0 _ ?side1 ?side2 di.out).mono ?_); (case side1 => exact ri118 ac); (case side2 => exact rbi HB); rintro e al ⟨rfl, hi, hb, hk⟩; refine ⟨_, rfl, ?_⟩; replace aa := am (Kd.R_mono (Kd.R_keep (IsS118.apart (show IsS118 w0 _ g ae ap aq from ri118 ac) (rr aa) (by decide)) hk (fun _ h => h.2)) (fun _ h => h.1)); replace aD := am (Kd.R_mono (Kd.R_keep (IsS118.apart (show IsS118 w0 _ g ae ap aq from ri118 ac) (rr aD) (by decide)) hk (fun _ h => h.2)) (fun _ h => h.1)); replace HK := kt HK hk; replace HB := am (hb); replace ac := am (hi); (try clear hb); (try clear aF); (try clear hk); (try clear hi); obtain ⟨eM, f5, d5⟩ := Kd.R_slice aD.out; subst d5; have bq : 0 ≤ (aj : Int) := dt_; have bt : aj < (aB.length : Int) := dt_; obtain ⟨eI, d3, dg⟩ := Kd.at_int (Kd.R_reads' aD.out).2.2 aj bq bt; cases d3; replace bq := eq_true bq; replace bt := eq_true bt; have cm : 0 ≤ (a8 : Int) := dt_; have cp : (a8 : Int) < ((a9.length : Int) : Int) := dt_; obtain ⟨ah, eZ, bP, bS, gl26, cl26, bJ⟩ := Kd.R_form aa.out (by omega); (first | cases bP | (injection bP with ea_ en_ ec_; (first | subst ea_ | (injection ea_ with ea_; subst ea_)); subst ec_; clear en_)); have cY := am bS; have eO := am bJ; clear bS gl26 bJ; (try simp only [add_plain] at aI aJ aK aL aM aN aO); obtain ⟨eU, cV, hM26, av, az⟩ := Kd.R_elem aa.out z98 (a8 : Int) cm cp; obtain rfl := k98_openM hM26; have el : al.cell? ⟨ah, (a8 : Int).toNat * 7, none⟩ = some (.int .i64 ((rd_T98 a9 a8).f0)) := av 0 _ rfl; have eo : al.cell? ⟨ah, (a8 : Int).toNat * 7 + 1, none⟩ = some (.int .i64 ((rd_T98 a9 a8).f1.f0)) := av 1 _ rfl; have ep : al.cell? ⟨ah, (a8 : Int).toNat * 7 + 2, none⟩ = some (.int .i64 ((rd_T98 a9 a8).f1.f1)) := av 2 _ rfl; have er : al.cell? ⟨ah, (a8 : Int).toNat * 7 + 3, none⟩ = some (.bool ((rd_T98 a9 a8).f1.f2)) := av 3 _ rfl; have es : al.cell? ⟨ah, (a8 : Int).toNat * 7 + 4, none⟩ = some (.bool ((rd_T98 a9 a8).f1.f3)) := av 4 _ rfl; have eu : al.cell? ⟨ah, (a8 : Int).toNat * 7 + 5, none⟩ = some (.bool ((rd_T98 a9 a8).f1.f4)) := av 5 _ rfl; have ev : al.cell? ⟨ah, (a8 : Int).toNat * 7 + 6, none⟩ = some (.int .i64 ((rd_T98 a9 a8).f2)) := av 6 _ rfl; have dP : al.frozen? ⟨ah, (a8 : Int).toNat * 7, none⟩ = false := az 0; have dQ : al.frozen? ⟨ah, (a8 : Int).toNat * 7 + 1, none⟩ = false := az 1; have dR : al.frozen? ⟨ah, (a8 : Int).toNat * 7 + 2, none⟩ = false := az 2; have dS : al.frozen? ⟨ah, (a8 : Int).toNat * 7 + 3, none⟩ = false := az 3; have dU : al.frozen? ⟨ah, (a8 : Int).toNat * 7 + 4, none⟩ = false := az 4; have dV : al.frozen? ⟨ah, (a8 : Int).toNat * 7 + 5, none⟩ = false := az 5; have dW : al.frozen? ⟨ah, (a8 : Int).toNat * 7 + 6, none⟩ = false := az 6; clear cV av az hM26; replace cm := eq_true cm; replace cp := eq_true cp; have bM := am (show Kd.R k98 98 al w.heap.size (fun _ => True) (.slice (some ⟨ah, 0, none⟩) a9.length aG) a9 from (rr aa)); obtain ⟨eV, bE, hM37, bf, bH⟩ := Kd.R_elem bM.out z98 (a8 : Int) dt_ (by have h_ : (a8 : Int) < ((a9.length : Int) : Int) := dt_; first | exact h_ | (have e_ := (Kd.R_reads' aa.out).1; omega) | simpa using h_); obtain rfl := k98_openM hM37; have bn := Kd.R_seg bM.out (a8 : Int) dt_ (by have h_ : (a8 : Int) < ((a9.length : Int) : Int) := dt_; first | exact h_ | (have e_ := (Kd.R_reads' aa.out).1; omega) | simpa using h_) (seg := [.int .i64 (rd aB aj)]) (j := 0) bE bf (show 1 ≤ 7 from by decide) (x' := (⟨rd aB aj, (⟨(rd_T98 a9 a8).f1.f0, (rd_T98 a9 a8).f1.f1, (rd_T98 a9 a8).f1.f2, (rd_T98 a9 a8).f1.f3, (rd_T98 a9 a8).f1.f4⟩ : S96), (rd_T98 a9 a8).f2⟩ : S98)) (k98_mkM _ _ _ (⟨rd aB aj, (⟨(rd_T98 a9 a8).f1.f0, (rd_T98 a9 a8).f1.f1, (rd_T98 a9 a8).f1.f2, (rd_T98 a9 a8).f1.f3, (rd_T98 a9 a8).f1.f4⟩ : S96), (rd_T98 a9 a8).f2⟩ : S98) ) (fun _ hk => hk); have cd := bf 0 _ rfl; (try simp only [show (k98).sz = 7 from rfl, Nat.mul_one, Nat.add_zero] at cd); have bV := bH 0; (try simp only [show (k98).sz = 7 from rfl, Nat.mul_one, Nat.add_zero] at bV); clear bE bf bH hM37) | ((with_reducible refine cg 54 rfl ?_); refine gl_ (some 24) Try.func54 #[.pointer (some ⟨g, 0, none⟩), .int .i64 (-1), .int .i64 4] ?_; (with_reducible refine (spec_l1From.calls g ae ap aq (-1) 4 aP cv cw w0 _ ?side1 ?side2 dh.out).mono ?_); (case side1 => exact ri118 ac); (case side2 => exact rbi HB); rintro e ak ⟨rfl, hi, hb, hk⟩; refine ⟨_, rfl, ?_⟩; replace aa := am (Kd.R_mono (Kd.R_keep (IsS118.apart (show IsS118 w0 _ g ae ap aq from ri118 ac) (rr aa) (by decide)) hk (fun _ h => h.2)) (fun _ h => h.1)); replace HK := kt HK hk; replace HB := am (hb); replace ac := am (hi); (try clear hb); (try clear aF); (try clear hk); (try clear hi); have cl : 0 ≤ (a8 : Int) := dt_; have co : (a8 : Int) < ((a9.length : Int) : Int) := dt_; obtain ⟨ai, eY, bO, bR, gl12, cl12, bI⟩ := Kd.R_form aa.out (by omega); (first | cases bO | (injection bO with ea_ en_ ec_; (first | subst ea_ | (injection ea_ with ea_; subst ea_)); subst ec_; clear en_)); have cX := am bR; have eN := am bI; clear bR gl12 bI; (try simp only [add_plain] at aI aJ aK aL aM aN aO); obtain ⟨eS, cU, hM12, au, ay⟩ := Kd.R_elem aa.out z98 (a8 : Int) cl co; obtain rfl := k98_openM hM12; have ee : ak.cell? ⟨ai, (a8 : Int).toNat * 7, none⟩ = some (.int .i64 ((rd_T98 a9 a8).f0)) := au 0 _ rfl; have ef : ak.cell? ⟨ai, (a8 : Int).toNat * 7 + 1, none⟩ = some (.int .i64 ((rd_T98 a9 a8).f1.f0)) := au 1 _ rfl; have eg : ak.cell? ⟨ai, (a8 : Int).toNat * 7 + 2, none⟩ = some (.int .i64 ((rd_T98 a9 a8).f1.f1)) := au 2 _ rfl; have eh : ak.cell? ⟨ai, (a8 : Int).toNat * 7 + 3, none⟩ = some (.bool ((rd_T98 a9 a8).f1.f2)) := au 3 _ rfl; have ei : ak.cell? ⟨ai, (a8 : Int).toNat * 7 + 4, none⟩ = some (.bool ((rd_T98 a9 a8).f1.f3)) := au 4 _ rfl; have ej : ak.cell? ⟨ai, (a8 : Int).toNat * 7 + 5, none⟩ = some (.bool ((rd_T98 a9 a8).f1.f4)) := au 5 _ rfl; have ek : ak.cell? ⟨ai, (a8 : Int).toNat * 7 + 6, none⟩ = some (.int .i64 ((rd_T98 a9 a8).f2)) := au 6 _ rfl; have dI : ak.frozen? ⟨ai, (a8 : Int).toNat * 7, none⟩ = false := ay 0; have dJ : ak.frozen? ⟨ai, (a8 : Int).toNat * 7 + 1, none⟩ = false := ay 1; have dK : ak.frozen? ⟨ai, (a8 : Int).toNat * 7 + 2, none⟩ = false := ay 2; have dL : ak.frozen? ⟨ai, (a8 : Int).toNat * 7 + 3, none⟩ = false := ay 3; have dM : ak.frozen? ⟨ai, (a8 : Int).toNat * 7 + 4, none⟩ = false := ay 4; have dN : ak.frozen? ⟨ai, (a8 : Int).toNat * 7 + 5, none⟩ = false := ay 5; have dO : ak.frozen? ⟨ai, (a8 : Int).toNat * 7 + 6, none⟩ = false := ay 6; clear cU au ay hM12; replace cl := eq_true cl; replace co := eq_true co; have bL := am (show Kd.R k98 98 ak w.heap.size (fun _ => True) (.slice (some ⟨ai, 0, none⟩) a9.length aG) a9 from (rr aa)); obtain ⟨eT, bD, hM20, bc, bG⟩ := Kd.R_elem bL.out z98 (a8 : Int) dt_ (by have h_ : (a8 : Int) < ((a9.length : Int) : Int) := dt_; first | exact h_ | (have e_ := (Kd.R_reads' aa.out).1; omega) | simpa using h_); obtain rfl := k98_openM hM20; have bl := Kd.R_seg bL.out (a8 : Int) dt_ (by have h_ : (a8 : Int) < ((a9.length : Int) : Int) := dt_; first | exact h_ | (have e_ := (Kd.R_reads' aa.out).1; omega) | simpa using h_) (seg := [.int .i64 aP]) (j := 6) bD bc (show 7 ≤ 7 from by decide) (x' := (⟨(rd_T98 a9 a8).f0, (⟨(rd_T98 a9 a8).f1.f0, (rd_T98 a9 a8).f1.f1, (rd_T98 a9 a8).f1.f2, (rd_T98 a9 a8).f1.f3, (rd_T98 a9 a8).f1.f4⟩ : S96), aP⟩ : S98)) (k98_mkM _ _ _ (⟨(rd_T98 a9 a8).f0, (⟨(rd_T98 a9 a8).f1.f0, (rd_T98 a9 a8).f1.f1, (rd_T98 a9 a8).f1.f2, (rd_T98 a9 a8).f1.f3, (rd_T98 a9 a8).f1.f4⟩ : S96), aP⟩ : S98) ) (fun _ hk => hk); have cb := bc 6 _ rfl; (try simp only [show (k98).sz = 7 from rfl, Nat.mul_one, Nat.add_zero] at cb); have bU := bG 6; (try simp only [show (k98).sz = 7 from rfl, Nat.mul_one, Nat.add_zero] at bU); clear bD bc bG hM20) | ((with_reducible refine gate_dst (N := 30) rfl ?_); refine Kd.R_lit (Kd.int .i64) _ 2 ?hg (N := 30) ?hd (xs := ([0, 10, 19968, (-1)] : List Int)) (inner := [.int .i64 0, .int .i64 10, .int .i64 19968, .int .i64 (-1)]) (ok := fun _ => True) (okp := fun _ => True) ?hr ?hp (fun _ hk => hk) trivial (Below.refl _ _) (Nat.le_refl _) (by simp) ?_; (case hd => rfl); (case hg => rfl); (case hr => first | (go_simp; done) | (go_simp; rfl)); (case hp => exact (Reps.one (show Kd.M (Kd.int .i64) _ _ _ 0 [.int .i64 0] from rfl) (Reps.one (show Kd.M (Kd.int .i64) _ _ _ 10 [.int .i64 10] from rfl) (Reps.one (show Kd.M (Kd.int .i64) _ _ _ 19968 [.int .i64 19968] from rfl) (Reps.one (show Kd.M (Kd.int .i64) _ _ _ (-1) [.int .i64 (-1)] from rfl) (Reps.none _ _)))))); intro f9 fh b8 hb hg_ hnew_; clear hg_ hnew_; (first | rw [← bC.out] at b8 | (simp only [Int.reduceToNat] at b8; rw [← bC.out] at b8)); replace aa := am (Kd.R_below (rr aa) hb); have aD := am (Kd.R_lower b8 (ks HK)); replace HK := kb HK hb; replace HB := bsi HB hb; replace ac := am (IsS118.below (ri118 ac) hb); clear hb b8) | ((with_reducible refine gate_store (t := 96) (p := 43) rfl ?_); refine store_event (t := 96) (p := 43) (v := ?eG) (w1 := (((((ao.setCell ⟨af, (a8 : Int).toNat * 7 + 1, none⟩ (.int .i64 aQ)).setCell ⟨af, (a8 : Int).toNat * 7 + 2, none⟩ (.int .i64 aR)).setCell ⟨af, (a8 : Int).toNat * 7 + 3, none⟩ (.bool aS)).setCell ⟨af, (a8 : Int).toNat * 7 + 4, none⟩ (.bool aT)).setCell ⟨af, (a8 : Int).toNat * 7 + 5, none⟩ (.bool aU))) ?hg ?ho ?hn ?hr ?_; (case ho => rfl); (case hg => rfl); (case hn => rfl); (case hr => first | (go_simp; done) | (go_simp; rfl)); intro cE hw; have hg : ao.grownBy cE (some af) := (by rw [hw]; exact bo.2); have hp_ : Kd.R k98 98 cE w.heap.size (fun _ => True) (.slice (some ⟨af, 0, none⟩) a9.length aG) cH := (by rw [hw, cL.out]; exact bo.1); clear bo; replace ac := am (IsS118.grown (ri118 ac) hg (IsS118.own_ne ac.out aa.out (by decide))); replace HB := am ((by rw [hw]; exact below_set (below_set (below_set (below_set (below_set (HB.out) (Nat.le_trans HL.out b7.out)) (Nat.le_trans HL.out b7.out)) (Nat.le_trans HL.out b7.out)) (Nat.le_trans HL.out b7.out)) (Nat.le_trans HL.out b7.out) : Below w0.heap.size w0 cE)); replace HK := am (KeepBut.trans (rkk HK) (KeepBut.of_grown hg g) (Kd.R_base2 aa.out)); replace aa := am (hp_); clear hg hw hp_) | ((with_reducible refine cg 52 rfl ?_); refine gl_ (some 16) Try.func52 #[.pointer (some ⟨g, 0, none⟩), .int .i64 (a9.length : Int)] ?_; (with_reducible refine (spec_l1Below.calls g ae bg bh (a9.length : Int) a8 bz bA w0 _ ?side1 ?side2 A6.out).mono ?_); (case side1 => exact ri118 ac); (case side2 => exact rbi HB); rintro e ff ⟨rfl, hi, hb, hk⟩; refine ⟨_, rfl, ?_⟩; replace aa := am (Kd.R_mono (Kd.R_keep (IsS118.apart (show IsS118 w0 _ g ae bg bh from ri118 ac) (rr aa) (by decide)) hk (fun _ h => h.2)) (fun _ h => h.1)); replace HK := kt HK hk; replace HB := am (hb); replace ac := am (hi); (try clear hb); (try clear aF); (try clear hk); (try clear hi); have bp : 0 ≤ (a8 : Int) := dt_; have br : a8 < (a9.length : Int) := dt_; obtain ⟨eH, cZ, aI, aJ, aK, aL, aM, aN, aO⟩ := at_T98 (Kd.R_reads' aa.out).2.2 a8 bp br; cases cZ; replace bp := eq_true bp; replace br := eq_true br) | ((with_reducible refine cg 100 rfl ?_); refine gl_ (some 50) Try.func100 #[.int .i64 (wrap64 (60 + bB)), .agg #[.int .i64 0, .int .i64 0, .bool false, .bool false, .bool false]] ?_; (with_reducible refine (spec_l4Row.calls k (wrap64 (60 + bB)) 0 0 false false false df _ dm.out).mono ?_); rintro e fj ⟨fa, rfl, bb, hb⟩; refine ⟨_, rfl, ?_⟩; have cI := am (Kd.R_lower (Kd.R_new' bb (Kd.R_lt (rr aa))) (ks HK)); replace aa := am (Kd.R_elder' (rr aa) (Kd.R_base bb) hb); replace HK := kb HK hb; replace HB := bsi HB hb; replace ac := am (IsS118.below (ri118 ac) hb); (try clear hb); (try clear aF); (try clear hk); (try clear hi); (try clear bb)) | ((with_reducible refine gate_store (t := 2) (p := 36) rfl ?_); refine store_event (t := 2) (p := 36) (v := ?eF) (w1 := (al.setCell ⟨ah, (a8 : Int).toNat * 7, none⟩ (.int .i64 (rd aB aj)))) ?hg ?ho ?hn ?hr ?_; (case ho => rfl); (case hg => rfl); (case hn => rfl); (case hr => first | (go_simp; done) | (go_simp; rfl)); intro cD hw; have hg : al.grownBy cD (some ah) := (by rw [hw]; exact bn.2); have hp_ : Kd.R k98 98 cD w.heap.size (fun _ => True) (.slice (some ⟨ah, 0, none⟩) a9.length aG) cG := (by rw [hw, cK.out]; exact bn.1); clear bn; replace ac := am (IsS118.grown (ri118 ac) hg (IsS118.own_ne ac.out aa.out (by decide))); replace aD := am (Kd.R_over' (v := (.slice (some ⟨ah, 0, none⟩) a9.length aG)) (rr aD) (Kd.R_typed aa.out) (by decide) hg); replace HB := am ((by rw [hw]; exact below_set (HB.out) (Nat.le_trans HL.out cY.out) : Below w0.heap.size w0 cD)); replace HK := am (KeepBut.trans (rkk HK) (KeepBut.of_grown hg g) (Kd.R_base2 aa.out)); replace aa := am (hp_); clear hg hw hp_) | ((with_reducible refine cg 51 rfl ?_); refine gl_ (some 11) Try.func51 #[.pointer (some ⟨g, 0, none⟩), .int .i64 12] ?_; (with_reducible refine (spec_l1Once.calls g ae b9 ba 12 true bg bh w0 _ ?side1 ?side2 A4.out).mono ?_); (case side1 => exact ri118 ac); (case side2 => exact rbi HB); rintro e fe ⟨rfl, hi, hb, hk⟩; refine ⟨_, rfl, ?_⟩; replace aa := am (Kd.R_mono (Kd.R_keep (IsS118.apart (show IsS118 w0 _ g ae b9 ba from ri118 ac) (rr aa) (by decide)) hk (fun _ h => h.2)) (fun _ h => h.1)); replace HK := kt HK hk; replace HB := am (hb); replace ac := am (hi); (try clear hb); (try clear aF); (try clear hk); (try clear hi); obtain ⟨eL, aG, d4⟩ := Kd.R_slice aa.out; subst d4) | ((with_reducible refine cg 51 rfl ?_); refine gl_ (some 11) Try.func51 #[.pointer (some ⟨g, 0, none⟩), .int .i64 12] ?_; (with_reducible refine (spec_l1Once.calls g ae b9 ba 12 false bg bh w0 _ ?side1 ?side2 A4.out).mono ?_); (case side1 => exact ri118 ac); (case side2 => exact rbi HB); rintro e fk ⟨rfl, hi, hb, hk⟩; refine ⟨_, rfl, ?_⟩; replace aa := am (Kd.R_mono (Kd.R_keep (IsS118.apart (show IsS118 w0 _ g ae b9 ba from ri118 ac) (rr aa) (by decide)) hk (fun _ h => h.2)) (fun _ h => h.1)); replace HK := kt HK hk; replace HB := am (hb); replace ac := am (hi); (try clear hb); (try clear aF); (try clear hk); (try clear hi)) | ((with_reducible refine cg 52 rfl ?_); refine gl_ (some 47) Try.func52 #[.pointer (some ⟨g, 0, none⟩), .int .i64 2] ?_; (with_reducible refine (spec_l1Below.calls g ae ap aq 2 bB dd de w0 _ ?side1 ?side2 dk.out).mono ?_); (case side1 => exact ri118 ac); (case side2 => exact rbi HB); rintro e fi ⟨rfl, hi, hb, hk⟩; refine ⟨_, rfl, ?_⟩; replace aa := am (Kd.R_mono (Kd.R_keep (IsS118.apart (show IsS118 w0 _ g ae ap aq from ri118 ac) (rr aa) (by decide)) hk (fun _ h => h.2)) (fun _ h => h.1)); replace HK := kt HK hk; replace HB := am (hb); replace ac := am (hi); (try clear hb); (try clear aF); (try clear hk); (try clear hi)) | ((with_reducible refine cg 52 rfl ?_); refine gl_ (some 19) Try.func52 #[.pointer (some ⟨g, 0, none⟩), .int .i64 4] ?_; (with_reducible refine (spec_l1Below.calls g ae bz bA 4 ag ap aq w0 _ ?side1 ?side2 A9.out).mono ?_); (case side1 => exact ri118 ac); (case side2 => exact rbi HB); rintro e fg ⟨rfl, hi, hb, hk⟩; refine ⟨_, rfl, ?_⟩; replace aa := am (Kd.R_mono (Kd.R_keep (IsS118.apart (show IsS118 w0 _ g ae bz bA from ri118 ac) (rr aa) (by decide)) hk (fun _ h => h.2)) (fun _ h => h.1)); replace HK := kt HK hk; replace HB := am (hb); replace ac := am (hi); (try clear hb); (try clear aF); (try clear hk); (try clear hi)) | ((with_reducible refine cg 113 rfl ?_); refine gl_ (some 9) Try.func113 #[.pointer (some ⟨g, 0, none⟩), .int .i64 (wrap64 (1 + bw))] ?_; (with_reducible refine (spec_l4Draw.calls k g ae ct cu (wrap64 (1 + bw)) a9 b9 ba w0 _ ?side1 ?side2 A3.out).mono ?_); (case side1 => exact ri118 ac); (case side2 => exact rbi HB); rintro e fd ⟨f8, rfl, bb, hi, hb, hk⟩; refine ⟨_, rfl, ?_⟩; have aa := am (Kd.R_lower bb (ks HK)); replace HK := kt HK hk; replace HB := am (hb); replace ac := am (hi); (try clear hb); (try clear aF); (try clear hk); (try clear hi); (try clear bb)) | ((with_reducible refine gate_store (t := 2) (p := 26) rfl ?_); refine store_event (t := 2) (p := 26) (v := ?eE) (w1 := (ak.setCell ⟨ai, (a8 : Int).toNat * 7 + 6, none⟩ (.int .i64 aP))) ?hg ?ho ?hn ?hr ?_; (case ho => rfl); (case hg => rfl); (case hn => rfl); (case hr => first | (go_simp; done) | (go_simp; rfl)); intro cC hw; have hg : ak.grownBy cC (some ai) := (by rw [hw]; exact bl.2); have hp_ : Kd.R k98 98 cC w.heap.size (fun _ => True) (.slice (some ⟨ai, 0, none⟩) a9.length aG) cF := (by rw [hw, cJ.out]; exact bl.1); clear bl; replace ac := am (IsS118.grown (ri118 ac) hg (IsS118.own_ne ac.out aa.out (by decide))); replace HB := am ((by rw [hw]; exact below_set (HB.out) (Nat.le_trans HL.out cX.out) : Below w0.heap.size w0 cC)); replace HK := am (KeepBut.trans (rkk HK) (KeepBut.of_grown hg g) (Kd.R_base2 aa.out)); replace aa := am (hp_); clear hg hw hp_) | ((with_reducible refine cg 52 rfl ?_); refine gl_ (some 7) Try.func52 #[.pointer (some ⟨g, 0, none⟩), .int .i64 9] ?_; (with_reducible refine (spec_l1Below.calls g ae bu bv 9 bw ct cu w0 _ ?side1 ?side2 A2.out).mono ?_); (case side1 => exact ri118 ac); (case side2 => exact rbi HB); rintro e fc ⟨rfl, hi, hb, hk⟩; refine ⟨_, rfl, ?_⟩; replace HK := kt HK hk; replace HB := am (hb); replace ac := am (hi); (try clear hb); (try clear aF); (try clear hk); (try clear hi)))
go_ret
first
| (
first | have q_ := d6 | have q_ := d7 | have q_ := d8 | have q_ := da | have q_ := db
exact ⟨_, ew, qR_ aa, ri118 ac, rbi HB, rkk HK⟩
)
| (
have q_ := d9
exact ⟨_, ew, qR_ cI, ri118 ac, rbi HB, rkk HK⟩
)
)
)

end Go.Proofs.Ytalopdcephohgaa.RD
