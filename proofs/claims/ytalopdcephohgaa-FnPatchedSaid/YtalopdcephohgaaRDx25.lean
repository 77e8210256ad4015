/- Contracts of Go functions that laws of this seat reach: each Lean function answers as its Go function does. No condition. Written by wip/tools/inj.py, over the kit's print. -/
import Derived.Test.YtalopdcephohgaaRDx0
import Derived.Test.YtalopdcephohgaaRDx3
import Derived.Test.YtalopdcephohgaaRDx6
import Derived.Test.YtalopdcephohgaaRDx7
import Derived.Test.YtalopdcephohgaaRDx8
import Derived.Test.YtalopdcephohgaaRDx24
namespace Go.Proofs.Ytalopdcephohgaa.RD
open Go.RowKit Go.Proofs.YtalopdcephohgaaW.PrintWords Go.Proofs.YtalopdcephohgaaW.PrintLast Go.Proofs.YtalopdcephohgaaW.PrintMore
attribute [local go_sem] max2_int min2_int max_two min_two max_three min_three max_four min_four   -- for this text's walks alone
set_option linter.unusedVariables false
set_option linter.unusedSimpArgs false

/-! ### spec_l4Cleared: function 139 -/
def spec_l4Cleared.l0 : Nat → Int → List (S98) → Int → Int → Int → Bool → Bool → Bool → Option ((List (S98)))
 | 0, _, _, _, _, _, _, _, _ => none
 | k + 1, x2, x9, ag, a9, aa, ac, ae, af => if ag < x2 then ((spec_l4Blank.f a9 aa ac ae af).bind fun a8 => (if 0 ≤ ag then (if ag < (x9.length : Int) then (spec_l4Cleared.l0 k x2 (x9.set (ag : Int).toNat (⟨a8.1, (⟨a8.2.1, a8.2.2.1, a8.2.2.2.1, a8.2.2.2.2.1, a8.2.2.2.2.2.1⟩ : S96), a8.2.2.2.2.2.2⟩ : S98)) (wrap64 (ag + 1)) a9 aa ac ae af) else (none)) else (none))) else ((spec_l4Mended.f k x9).bind fun ah => (some ah))
def spec_l4Cleared.f (k : Nat) (l0 : List (S98)) (a1 : Int) (a2 : Int) (a9 : Int) (aa : Int) (ac : Bool) (ae : Bool) (af : Bool) : Option ((List (S98))) := (some (([] : List (S98)) : List (S98))).bind fun a8 => (if a8.length + l0.length < 3518437208883 then (spec_l4Cleared.l0 k a2 (a8 ++ l0) a1 a9 aa ac ae af) else (none))
theorem spec_l4Cleared.mono_l : ∀ k, (∀ y0 y1 y2 y3 y4 y5 y6 y7, LeO (spec_l4Cleared.l0 k y0 y1 y2 y3 y4 y5 y6 y7) (spec_l4Cleared.l0 (k + 1) y0 y1 y2 y3 y4 y5 y6 y7))
 | 0 => fun _ _ _ _ _ _ _ _ r h => by simp [spec_l4Cleared.l0] at h
 | k + 1 => by
  have ih0 := spec_l4Cleared.mono_l k
  ·intro y0 y1 y2 y3 y4 y5 y6 y7
   unfold spec_l4Cleared.l0
   repeat' first
   | (with_reducible exact ih0 _ _ _ _ _ _ _ _)
   | (with_reducible exact spec_l4Mended.mono _ _)
   | (with_reducible exact LeO.refl _)
   | (with_reducible exact LeO.none _)
   | (with_reducible refine LeO.ite ?_ ?_)
   | (with_reducible refine LeO.bind ?_ (fun _ => ?_))
theorem spec_l4Cleared.mono : ∀ a0 a1 a2 a3 a4 a5 a6 a7 k, LeO (spec_l4Cleared.f k a0 a1 a2 a3 a4 a5 a6 a7) (spec_l4Cleared.f (k + 1) a0 a1 a2 a3 a4 a5 a6 a7) := by
 intro a0 a1 a2 a3 a4 a5 a6 a7 k
 have ih0 := spec_l4Cleared.mono_l k
 unfold spec_l4Cleared.f
 repeat' first
   | (with_reducible exact ih0 _ _ _ _ _ _ _ _)
   | (with_reducible exact spec_l4Mended.mono _ _)
   | (with_reducible exact LeO.refl _)
   | (with_reducible exact LeO.none _)
   | (with_reducible refine LeO.ite ?_ ?_)
   | (with_reducible refine LeO.bind ?_ (fun _ => ?_))
set_option maxHeartbeats 8000000 in
set_option maxRecDepth 100000 in
theorem spec_l4Cleared.calls (k : Nat) (A0 : Option Addr) (c0 : Nat) (l0 : List (S98)) (a1 : Int) (a2 : Int) (ak : Int) (al : Int) (ao : Bool) (ap : Bool) (aq : Bool) (r : List (S98)) (w : World) (bH : Kd.C k98 w A0 l0.length l0) (bG : l0.length ≤ c0) (h : spec_l4Cleared.f k l0 a1 a2 ak al ao ap aq = some r) :
  Calls Try.prog 139 #[.slice A0 l0.length c0, .int .i64 a1, .int .i64 a2, .agg #[.int .i64 ak, .int .i64 al, .bool ao, .bool ap, .bool aq]] w fun e w' => ∃ v0_ : Value, e = .returned (v0_) ∧ Kd.R k98 98 w' w.heap.size (fun _ => True) v0_ r ∧ Below w.heap.size w w' := by
 (
have cz := Try.underlying96
have cA := Try.underlying98
have bP := am bH
have cF := am bG
clear bH bG
have HB := am (Below.refl w.heap.size w)
have H := h
unfold spec_l4Cleared.f at H
clear h
obtain ⟨aI, aE⟩ : ∃ y_ : List (S98), y_ = (([] : List (S98))) := ⟨_, rfl⟩
replace H : (if aI.length + l0.length < 3518437208883 then (spec_l4Cleared.l0 k a2 (aI ++ l0) a1 ak al ao ap aq) else (none)) = some r := by first | (rw [aE]; with_reducible exact H) | (rw [aE]; exact H) | exact H
have aU := am aE
clear aE
refine em_ (p := aI.length + l0.length < 3518437208883) (fun c5 => ?bR) (fun c5 => ?bQ)
case' bR => (
rw [if_pos c5] at H
have LMc5 := am c5
clear c5
obtain ⟨bu, aG⟩ : ∃ y_ : List (S98), y_ = (aI ++ l0) := ⟨_, rfl⟩
replace H : (spec_l4Cleared.l0 k a2 bu a1 ak al ao ap aq) = some r := by first | (rw [aG]; with_reducible exact H) | (rw [aG]; exact H) | exact H
have bA := am aG
clear aG
have H' := am H
clear H
have cB := trivial
)
case bQ => (
rw [if_neg c5] at H
exact absurd H (by simp)
)
all_goals (
go_enter Try.func139, Try.ntmps139
go_wp2_with (first | (refine bx 7 #[.int .i64 ak, .int .i64 al, .bool ao, .bool ap, .bool aq] 96 ?_; intro bD hg w6 hbox hb; have ac := am (hbox); have bv := am (gw hg (rb HB)); have cq := bv; replace HB := bs HB hb; clear hb hbox hg) | ((with_reducible refine gate_dst (N := 11) rfl ?_); refine Kd.R_lit k98 _ 98 ?hg (N := 11) ?hd (xs := ([] : List (S98))) (inner := []) (ok := fun _ => True) (okp := fun _ => True) ?hr ?hp (fun _ hk => hk) trivial (Below.refl _ _) (Nat.le_refl _) (by simp) ?_; (case hd => rfl); (case hg => rfl); (case hr => first | (go_simp; done) | (go_simp; rfl)); (case hp => exact (Reps.none _ _)); intro bL w7 aP hb hg_ hnew_; clear hg_ hnew_; (first | rw [← aU.out] at aP | (simp only [Int.reduceToNat] at aP; rw [← aU.out] at aP)); have aK := am (Kd.R_lower aP (below_size (rb HB))); replace ac := kk ac hb; replace HB := bs HB hb; clear hb aP) | ((with_reducible refine gate_builtin (b := .append) (xs := #[.tmp 11, .tmp 12]) rfl ?_); at_builtin; refine Kd.R_append_rows k98 (w0 := w) w.heap.size rfl (.tmp 11) (.tmp 12) 99 98 (.agg #[(.int .i64 0), (.int .i64 0), (.int .i64 0), (.bool false), (.bool false), (.bool false), (.int .i64 0)]) 40 rfl Try.underlying99 info98 rfl (by decide) (by omega) bL aI l0 _ _ _ (fun _ => True) (fun _ => False) rfl rfl ?aO ?aR (fun _ _ h => h) (fun _ h => h.elim) ?aF ?aB ?aS ?aL ?_; (case aR => repeat (first | exact (Kd.C_below bP.out HB.out) | (with_reducible refine Kd.C_alloc ?_ _) | (with_reducible refine Kd.C_drewN ?_ _) | (with_reducible refine Kd.C_drew ?_))); (case aB => exact (rb HB)); (case aF => exact (fun _ _ => trivial)); (case aO => exact (rr aK)); (case aS => exact (below_size (rb HB))); (case aL => have := LMc5.out; omega); intro bM w9 ho hb hg hat; rw [← bA.out] at ho; replace ac := am (blk_grown (rk ac) hg (Kd.R_ne aK.out ac.out (by decide))); replace HB := am (hb); have bw := am (ho); clear aK; clear ho hb hg hat))
go_loopg [10] k (fun kq co w' => ∃ (aa : List (S98)) (a8 : Int), co = .int .i64 a8 ∧ Aside0 (spec_l4Cleared.l0 kq a2 aa a8 ak al ao ap aq = some r) ∧ Aside0 (kq ≤ k) ∧ Aside0 (Kd.R k98 98 w' w.heap.size (fun _ => True) bM aa) ∧ Aside0 (w'.heap[bD]? = some (.cells #[.int .i64 ak, .int .i64 al, .bool ao, .bool ap, .bool aq] 96 (0, 0))) ∧ Aside0 (Below w.heap.size w w'))
case atStart => exact ⟨(bu), (a1), sd, H', ⟨Nat.le_refl _⟩, ⟨rr bw⟩, ⟨rk ac⟩, ⟨rb HB⟩⟩
case round => (
clear H'
try clear c5
obtain ⟨aa, a8, rfl, HA, bF, ae, ac, HB⟩ := hrel
cases gk with
| zero => exact absurd HA.out (by simp [spec_l4Cleared.l0])
| succ k1 => (
have H := HA.out
clear HA
simp only [spec_l4Cleared.l0] at H
by_cases aJ : a8 < a2
·(
rw [if_pos aJ] at H
have bC : decide (a8 < a2) = true := decide_eq_true aJ
clear aJ
obtain ⟨⟨av, ax, ay, az, aA, aC, aD⟩, bN, H⟩ := bd H
(try dsimp only at H)
refine em_ (p := 0 ≤ a8) (fun aM => ?bV) (fun aM => ?bU)
case' bV => (
rw [if_pos aM] at H
have ct : decide (0 ≤ a8) = true := decide_eq_true aM
clear aM
refine em_ (p := a8 < (aa.length : Int)) (fun aN => ?bT) (fun aN => ?bS)
case' bT => (
rw [if_pos aN] at H
have cu : decide (a8 < (aa.length : Int)) = true := decide_eq_true aN
clear aN
obtain ⟨aT, aH⟩ : ∃ y_ : List (S98), y_ = (aa.set (a8 : Int).toNat (⟨av, (⟨ax, ay, az, aA, aC⟩ : S96), aD⟩ : S98)) := ⟨_, rfl⟩
replace H : (spec_l4Cleared.l0 k1 a2 aT (wrap64 (a8 + 1)) ak al ao ap aq) = some r := by first | (rw [aH]; with_reducible exact H) | (rw [aH]; exact H) | exact H
have bB := am aH
clear aH
have H' := am H
clear H
have cC := trivial
)
case bS => (
rw [if_neg aN] at H
exact absurd H (by simp)
)
)
case bU => (
rw [if_neg aM] at H
exact absurd H (by simp)
)
all_goals (
have cE := z5 ac
go_wp2_with (first | ((with_reducible refine cg 121 rfl ?_); refine gl_ (some 23) Try.func121 #[.agg #[.int .i64 ak, .int .i64 al, .bool ao, .bool ap, .bool aq]] ?_; (with_reducible refine (spec_l4Blank.calls ak al ao ap aq av ax ay az aA aC aD _ bN.out).mono ?_); rintro e af ⟨rfl, hb⟩; refine ⟨_, rfl, ?_⟩; replace ae := am (Kd.R_below (rr ae) hb); replace ac := kk ac hb; replace HB := bs HB hb; (try clear hb); (try clear bW); (try clear hk); (try clear hi); have bp : 0 ≤ (a8 : Int) := dt_; have bq : (a8 : Int) < ((aa.length : Int) : Int) := dt_; obtain ⟨a9, aZ, b4, b5, gl14, cl14, aX⟩ := Kd.R_form ae.out (by omega); (first | cases b4 | (injection b4 with ea_ en_ ec_; (first | subst ea_ | (injection ea_ with ea_; subst ea_)); subst ec_; clear en_)); have au := am b5; have cv := am aX; clear b5 gl14 aX; obtain ⟨cw, bE, hM14, ah, ai⟩ := Kd.R_elem ae.out z98 (a8 : Int) bp bq; obtain rfl := k98_openM hM14; have cf : af.cell? ⟨a9, (a8 : Int).toNat * 7, none⟩ = some (.int .i64 ((rd_T98 aa a8).f0)) := ah 0 _ rfl; have ch : af.cell? ⟨a9, (a8 : Int).toNat * 7 + 1, none⟩ = some (.int .i64 ((rd_T98 aa a8).f1.f0)) := ah 1 _ rfl; have cj : af.cell? ⟨a9, (a8 : Int).toNat * 7 + 2, none⟩ = some (.int .i64 ((rd_T98 aa a8).f1.f1)) := ah 2 _ rfl; have ck : af.cell? ⟨a9, (a8 : Int).toNat * 7 + 3, none⟩ = some (.bool ((rd_T98 aa a8).f1.f2)) := ah 3 _ rfl; have cl : af.cell? ⟨a9, (a8 : Int).toNat * 7 + 4, none⟩ = some (.bool ((rd_T98 aa a8).f1.f3)) := ah 4 _ rfl; have cm : af.cell? ⟨a9, (a8 : Int).toNat * 7 + 5, none⟩ = some (.bool ((rd_T98 aa a8).f1.f4)) := ah 5 _ rfl; have cn : af.cell? ⟨a9, (a8 : Int).toNat * 7 + 6, none⟩ = some (.int .i64 ((rd_T98 aa a8).f2)) := ah 6 _ rfl; have bX : af.frozen? ⟨a9, (a8 : Int).toNat * 7, none⟩ = false := ai 0; have bY : af.frozen? ⟨a9, (a8 : Int).toNat * 7 + 1, none⟩ = false := ai 1; have bZ : af.frozen? ⟨a9, (a8 : Int).toNat * 7 + 2, none⟩ = false := ai 2; have ca : af.frozen? ⟨a9, (a8 : Int).toNat * 7 + 3, none⟩ = false := ai 3; have cb : af.frozen? ⟨a9, (a8 : Int).toNat * 7 + 4, none⟩ = false := ai 4; have cd : af.frozen? ⟨a9, (a8 : Int).toNat * 7 + 5, none⟩ = false := ai 5; have ce : af.frozen? ⟨a9, (a8 : Int).toNat * 7 + 6, none⟩ = false := ai 6; clear bE ah ai hM14; replace bp := eq_true bp; replace bq := eq_true bq; have aY := am (show Kd.R k98 98 af w.heap.size (fun _ => True) (.slice (some ⟨a9, 0, none⟩) aa.length aZ) aa from (rr ae)); obtain ⟨cy, aV, hM17, ag, aj⟩ := Kd.R_elem aY.out z98 (a8 : Int) dt_ (by have h_ : (a8 : Int) < ((aa.length : Int) : Int) := dt_; first | exact h_ | (have e_ := (Kd.R_reads' ae.out).1; omega) | simpa using h_); obtain rfl := k98_openM hM17; have aQ := Kd.R_seg aY.out (a8 : Int) dt_ (by have h_ : (a8 : Int) < ((aa.length : Int) : Int) := dt_; first | exact h_ | (have e_ := (Kd.R_reads' ae.out).1; omega) | simpa using h_) (seg := [.int .i64 av, .int .i64 ax, .int .i64 ay, .bool az, .bool aA, .bool aC, .int .i64 aD]) (j := 0) aV ag (show 7 ≤ 7 from by decide) (x' := (⟨av, (⟨ax, ay, az, aA, aC⟩ : S96), aD⟩ : S98)) (k98_mkM _ _ _ (⟨av, (⟨ax, ay, az, aA, aC⟩ : S96), aD⟩ : S98) ) (fun _ hk => hk); have bg := ag 0 _ rfl; (try simp only [show (k98).sz = 7 from rfl, Nat.mul_one, Nat.add_zero] at bg); have b6 := aj 0; (try simp only [show (k98).sz = 7 from rfl, Nat.mul_one, Nat.add_zero] at b6); have bh := ag 1 _ rfl; (try simp only [show (k98).sz = 7 from rfl, Nat.mul_one, Nat.add_zero] at bh); have b7 := aj 1; (try simp only [show (k98).sz = 7 from rfl, Nat.mul_one, Nat.add_zero] at b7); have bi := ag 2 _ rfl; (try simp only [show (k98).sz = 7 from rfl, Nat.mul_one, Nat.add_zero] at bi); have b8 := aj 2; (try simp only [show (k98).sz = 7 from rfl, Nat.mul_one, Nat.add_zero] at b8); have bj := ag 3 _ rfl; (try simp only [show (k98).sz = 7 from rfl, Nat.mul_one, Nat.add_zero] at bj); have b9 := aj 3; (try simp only [show (k98).sz = 7 from rfl, Nat.mul_one, Nat.add_zero] at b9); have bl := ag 4 _ rfl; (try simp only [show (k98).sz = 7 from rfl, Nat.mul_one, Nat.add_zero] at bl); have ba := aj 4; (try simp only [show (k98).sz = 7 from rfl, Nat.mul_one, Nat.add_zero] at ba); have bn := ag 5 _ rfl; (try simp only [show (k98).sz = 7 from rfl, Nat.mul_one, Nat.add_zero] at bn); have bb := aj 5; (try simp only [show (k98).sz = 7 from rfl, Nat.mul_one, Nat.add_zero] at bb); have bo := ag 6 _ rfl; (try simp only [show (k98).sz = 7 from rfl, Nat.mul_one, Nat.add_zero] at bo); have bc := aj 6; (try simp only [show (k98).sz = 7 from rfl, Nat.mul_one, Nat.add_zero] at bc); clear aV ag aj hM17) | ((with_reducible refine gate_store (t := 98) (p := 24) rfl ?_); refine store_event (t := 98) (p := 24) (v := ?cp) (w1 := (((((((af.setCell ⟨a9, (a8 : Int).toNat * 7, none⟩ (.int .i64 av)).setCell ⟨a9, (a8 : Int).toNat * 7 + 1, none⟩ (.int .i64 ax)).setCell ⟨a9, (a8 : Int).toNat * 7 + 2, none⟩ (.int .i64 ay)).setCell ⟨a9, (a8 : Int).toNat * 7 + 3, none⟩ (.bool az)).setCell ⟨a9, (a8 : Int).toNat * 7 + 4, none⟩ (.bool aA)).setCell ⟨a9, (a8 : Int).toNat * 7 + 5, none⟩ (.bool aC)).setCell ⟨a9, (a8 : Int).toNat * 7 + 6, none⟩ (.int .i64 aD))) ?hg ?ho ?hn ?hr ?_; (case ho => rfl); (case hg => rfl); (case hn => rfl); (case hr => first | (go_simp; done) | (go_simp; rfl)); intro bt hw; have hg : af.grownBy bt (some a9) := (by rw [hw]; exact aQ.2); have hp_ : Kd.R k98 98 bt w.heap.size (fun _ => True) (.slice (some ⟨a9, 0, none⟩) aa.length aZ) aT := (by rw [hw, bB.out]; exact aQ.1); clear aQ; replace ac := am (blk_grown (rk ac) hg (Kd.R_ne ae.out ac.out (by decide))); replace ae := am (hp_); replace HB := am ((by rw [hw]; exact below_set (below_set (below_set (below_set (below_set (below_set (below_set (HB.out) au.out) au.out) au.out) au.out) au.out) au.out) au.out : Below w.heap.size w bt)); clear hg hw hp_))
go_roundg k1
case measure => have := bF.out; omega
case rel => exact ⟨(aT), (wrap64 (a8 + 1)), sd, H', ⟨by have := bF.out; omega⟩, ⟨rr ae⟩, ⟨rk ac⟩, ⟨rb HB⟩⟩
)
)
·(
rw [if_neg aJ] at H
have bC : decide (a8 < a2) = false := decide_eq_false aJ
clear aJ
replace H := Option.bind_eq_some_iff.mp H
obtain ⟨br, aW, H⟩ := H
replace H : (some br) = some r := H
have bO := am aW
clear aW
obtain rfl := Option.some.inj H
obtain ⟨bI, bJ, bK⟩ := Kd.R_slice ae.out
subst bK
go_wp2_with (first | ((with_reducible refine cg 98 rfl ?_); refine gl_ (some 26) Try.func98 #[.slice bI aa.length bJ] ?_; (with_reducible refine (spec_l4Mended.calls k1 _ _ aa br _ ?side1 ?side2 bO.out).mono ?_); (case side1 => repeat (first | exact (Kd.R_reads' ae.out).2.2 | (with_reducible refine Kd.C_alloc ?_ _) | (with_reducible refine Kd.C_drewN ?_ _) | (with_reducible refine Kd.C_drew ?_))); (case side2 => exact (Kd.R_reads' ae.out).2.1); rintro e cG ⟨cD, rfl, bf, hb⟩; refine ⟨_, rfl, ?_⟩; have bz := am (Kd.R_lower (Kd.R_new' bf (Kd.R_lt (rr ae))) (below_size (rb HB))); replace ae := am (Kd.R_elder' (rr ae) (Kd.R_base bf) hb); replace ac := kk ac hb; replace HB := bs HB hb; (try clear hb); (try clear bW); (try clear hk); (try clear hi); (try clear bf)))
go_ret
exact ⟨_, ew, qR_ bz, rb HB⟩
)
)
)
)
)

/-! ### spec_l4Written: function 126 -/
def spec_l4Written.f (k : Nat) (l0 : List (S98)) (a1 : Int) (a2 : Int) (a8 : Int) (a9 : Int) (aa : Bool) (ac : Bool) (ae : Bool) : Option ((List (S98))) := (spec_Width.f k a2).bind fun af => ((spec_l4Cleared.f k l0 a1 (wrap64 (a1 + af)) a8 a9 aa ac ae).bind fun ag => (if 0 ≤ a1 then (if a1 < (ag.length : Int) then ((some (ag.set (a1 : Int).toNat (⟨a2, (⟨a8, a9, aa, ac, ae⟩ : S96), wrap64 (af - 1)⟩ : S98) : List (S98))).bind fun ah => (if af = 2 then (if 0 ≤ (wrap64 (a1 + 1)) then (if (wrap64 (a1 + 1)) < (ag.length : Int) then (some (ah.set ((wrap64 (a1 + 1)) : Int).toNat (⟨0, (⟨a8, a9, aa, ac, ae⟩ : S96), 2⟩ : S98))) else (none)) else (none)) else (some ah))) else (none)) else (none)))
theorem spec_l4Written.mono : ∀ a0 a1 a2 a3 a4 a5 a6 a7 k, LeO (spec_l4Written.f k a0 a1 a2 a3 a4 a5 a6 a7) (spec_l4Written.f (k + 1) a0 a1 a2 a3 a4 a5 a6 a7) := by
 intro a0 a1 a2 a3 a4 a5 a6 a7 k
 unfold spec_l4Written.f
 repeat' first
   | (with_reducible exact spec_Width.mono _ _)
   | (with_reducible exact spec_l4Cleared.mono _ _ _ _ _ _ _ _ _)
   | (with_reducible exact LeO.refl _)
   | (with_reducible exact LeO.none _)
   | (with_reducible refine LeO.ite ?_ ?_)
   | (with_reducible refine LeO.bind ?_ (fun _ => ?_))
set_option maxHeartbeats 8000000 in
set_option maxRecDepth 100000 in
theorem spec_l4Written.calls (k : Nat) (A0 : Option Addr) (c0 : Nat) (l0 : List (S98)) (a1 : Int) (a2 : Int) (af : Int) (ag : Int) (ah : Bool) (ai : Bool) (aj : Bool) (r : List (S98)) (w : World) (bL : Kd.C k98 w A0 l0.length l0) (bJ : l0.length ≤ c0) (h : spec_l4Written.f k l0 a1 a2 af ag ah ai aj = some r) :
  Calls Try.prog 126 #[.slice A0 l0.length c0, .int .i64 a1, .int .i64 a2, .agg #[.int .i64 af, .int .i64 ag, .bool ah, .bool ai, .bool aj]] w fun e w' => ∃ v0_ : Value, e = .returned (v0_) ∧ Kd.R k98 98 w' w.heap.size (fun _ => True) v0_ r ∧ Below w.heap.size w w' := by
 (
have cU := Try.underlying96
have cV := Try.underlying98
have bQ := am bL
have bP := am bJ
clear bL bJ
have HB := am (Below.refl w.heap.size w)
have H := h
unfold spec_l4Written.f at H
clear h
obtain ⟨al, A5, H⟩ := bd H
(try dsimp only at H)
obtain ⟨aa, A6, H⟩ := bd H
(try dsimp only at H)
refine em_ (p := 0 ≤ a1) (fun c7 => ?ca) (fun c7 => ?bZ)
case' ca => (
rw [if_pos c7] at H
have cP : decide (0 ≤ a1) = true := decide_eq_true c7
clear c7
refine em_ (p := a1 < (aa.length : Int)) (fun c8 => ?bY) (fun c8 => ?bX)
case' bY => (
rw [if_pos c8] at H
have cQ : decide (a1 < (aa.length : Int)) = true := decide_eq_true c8
clear c8
obtain ⟨aq, aG⟩ : ∃ y_ : List (S98), y_ = (aa.set (a1 : Int).toNat (⟨a2, (⟨af, ag, ah, ai, aj⟩ : S96), wrap64 (al - 1)⟩ : S98)) := ⟨_, rfl⟩
replace H : (if al = 2 then (if 0 ≤ (wrap64 (a1 + 1)) then (if (wrap64 (a1 + 1)) < (aa.length : Int) then (some (aq.set ((wrap64 (a1 + 1)) : Int).toNat (⟨0, (⟨af, ag, ah, ai, aj⟩ : S96), 2⟩ : S98))) else (none)) else (none)) else (some aq)) = some r := by first | (rw [aG]; with_reducible exact H) | (rw [aG]; exact H) | exact H
have aN := am aG
clear aG
refine em_ (p := al = 2) (fun aF => ?bW) (fun aF => ?bV)
case' bW => (
rw [if_pos aF] at H
have bC : (al == 2) = true := beq_iff_eq.mpr aF
have bD : (al != 2) = false := bne_eq_false_iff_eq.mpr aF
clear aF
obtain ⟨a8, aD⟩ : ∃ j_ : Int, (wrap64 (a1 + 1)) = j_ := ⟨_, rfl⟩
replace H : (if 0 ≤ (a8) then (if (a8) < (aa.length : Int) then (some (aq.set ((a8) : Int).toNat (⟨0, (⟨af, ag, ah, ai, aj⟩ : S96), 2⟩ : S98))) else (none)) else (none)) = some r := by first | (rw [aD] at H; exact H) | (simp only [aD] at H ⊢; exact H)
(try rw [aD] at A5)
(try rw [aD] at A6)
have hji11w : (IntKind.i64.wrap (a1 + 1)) = a8 := (i64_w _).trans aD
refine em_ (p := 0 ≤ (a8)) (fun aI => ?bU) (fun aI => ?bT)
case' bU => (
rw [if_pos aI] at H
have cz : decide (0 ≤ (a8)) = true := decide_eq_true aI
clear aI
refine em_ (p := (a8) < (aa.length : Int)) (fun aJ => ?bS) (fun aJ => ?bR)
case' bS => (
rw [if_pos aJ] at H
have cA : decide ((a8) < (aa.length : Int)) = true := decide_eq_true aJ
clear aJ
obtain ⟨bz, aH⟩ : ∃ y_ : List (S98), y_ = (aq.set ((a8) : Int).toNat (⟨0, (⟨af, ag, ah, ai, aj⟩ : S96), 2⟩ : S98)) := ⟨_, rfl⟩
replace H : (some bz) = some r := by first | (rw [aH]; with_reducible exact H) | (rw [aH]; exact H) | exact H
have bB := am aH
clear aH
obtain rfl := Option.some.inj H
have bN := trivial
)
case bR => (
rw [if_neg aJ] at H
exact absurd H (by simp)
)
)
case bT => (
rw [if_neg aI] at H
exact absurd H (by simp)
)
)
case' bV => (
rw [if_neg aF] at H
have bC : (al == 2) = false := beq_eq_false_iff_ne.mpr aF
have bD : (al != 2) = true := bne_iff_ne.mpr aF
obtain rfl := Option.some.inj H
have bO := trivial
)
)
case bX => (
rw [if_neg c8] at H
exact absurd H (by simp)
)
)
case bZ => (
rw [if_neg c7] at H
exact absurd H (by simp)
)
all_goals (
go_enter Try.func126, Try.ntmps126
go_wp2_with (first | ((with_reducible refine gate_store (t := 98) (p := 27) rfl ?_); refine store_event (t := 98) (p := 27) (v := ?cu) (w1 := (((((((ap.setCell ⟨a9, (a1 : Int).toNat * 7, none⟩ (.int .i64 a2)).setCell ⟨a9, (a1 : Int).toNat * 7 + 1, none⟩ (.int .i64 af)).setCell ⟨a9, (a1 : Int).toNat * 7 + 2, none⟩ (.int .i64 ag)).setCell ⟨a9, (a1 : Int).toNat * 7 + 3, none⟩ (.bool ah)).setCell ⟨a9, (a1 : Int).toNat * 7 + 4, none⟩ (.bool ai)).setCell ⟨a9, (a1 : Int).toNat * 7 + 5, none⟩ (.bool aj)).setCell ⟨a9, (a1 : Int).toNat * 7 + 6, none⟩ (.int .i64 (wrap64 (al - 1))))) ?hg ?ho ?hn ?hr ?_; (case ho => rfl); (case hg => rfl); (case hn => rfl); (case hr => first | (go_simp; done) | (go_simp; rfl)); intro ao hw; have hg : ap.grownBy ao (some a9) := (by rw [hw]; exact aE.2); have hp_ : Kd.R k98 98 ao w.heap.size (fun _ => True) (.slice (some ⟨a9, 0, none⟩) aa.length aK) aq := (by rw [hw, aN.out]; exact aE.1); clear aE; replace ac := am (blk_grown (rk ac) hg (Kd.R_ne ae.out ac.out (by decide))); replace ae := am (hp_); replace HB := am ((by rw [hw]; exact below_set (below_set (below_set (below_set (below_set (below_set (below_set (HB.out) ak.out) ak.out) ak.out) ak.out) ak.out) ak.out) ak.out : Below w.heap.size w ao)); clear hg hw hp_; have cZ := z5 ac; have bt : 0 ≤ ((a8) : Int) := dt_; have bu : ((a8) : Int) < ((aa.length : Int) : Int) := dt_; obtain ⟨cR, bF, hM14, ax, ay⟩ := Kd.R_elem ae.out z98 ((a8) : Int) bt bu; obtain rfl := k98_openM hM14; have cl : ao.cell? ⟨a9, ((a8) : Int).toNat * 7, none⟩ = some (.int .i64 ((rd_T98 aq (a8)).f0)) := ax 0 _ rfl; have cm : ao.cell? ⟨a9, ((a8) : Int).toNat * 7 + 1, none⟩ = some (.int .i64 ((rd_T98 aq (a8)).f1.f0)) := ax 1 _ rfl; have cn : ao.cell? ⟨a9, ((a8) : Int).toNat * 7 + 2, none⟩ = some (.int .i64 ((rd_T98 aq (a8)).f1.f1)) := ax 2 _ rfl; have co : ao.cell? ⟨a9, ((a8) : Int).toNat * 7 + 3, none⟩ = some (.bool ((rd_T98 aq (a8)).f1.f2)) := ax 3 _ rfl; have cp : ao.cell? ⟨a9, ((a8) : Int).toNat * 7 + 4, none⟩ = some (.bool ((rd_T98 aq (a8)).f1.f3)) := ax 4 _ rfl; have cq : ao.cell? ⟨a9, ((a8) : Int).toNat * 7 + 5, none⟩ = some (.bool ((rd_T98 aq (a8)).f1.f4)) := ax 5 _ rfl; have ct : ao.cell? ⟨a9, ((a8) : Int).toNat * 7 + 6, none⟩ = some (.int .i64 ((rd_T98 aq (a8)).f2)) := ax 6 _ rfl; have cb : ao.frozen? ⟨a9, ((a8) : Int).toNat * 7, none⟩ = false := ay 0; have cd : ao.frozen? ⟨a9, ((a8) : Int).toNat * 7 + 1, none⟩ = false := ay 1; have ce : ao.frozen? ⟨a9, ((a8) : Int).toNat * 7 + 2, none⟩ = false := ay 2; have cf : ao.frozen? ⟨a9, ((a8) : Int).toNat * 7 + 3, none⟩ = false := ay 3; have ch : ao.frozen? ⟨a9, ((a8) : Int).toNat * 7 + 4, none⟩ = false := ay 4; have cj : ao.frozen? ⟨a9, ((a8) : Int).toNat * 7 + 5, none⟩ = false := ay 5; have ck : ao.frozen? ⟨a9, ((a8) : Int).toNat * 7 + 6, none⟩ = false := ay 6; clear bF ax ay hM14; replace bt := eq_true bt; replace bu := eq_true bu; have aR := am (show Kd.R k98 98 ao w.heap.size (fun _ => True) (.slice (some ⟨a9, 0, none⟩) aa.length aK) aq from (rr ae)); obtain ⟨cT, aP, hM22, av, aA⟩ := Kd.R_elem aR.out z98 ((a8) : Int) dt_ (by have h_ : ((a8) : Int) < ((aa.length : Int) : Int) := dt_; first | exact h_ | (have e_ := (Kd.R_reads' ae.out).1; omega) | simpa using h_); obtain rfl := k98_openM hM22; have aM := Kd.R_seg aR.out ((a8) : Int) dt_ (by have h_ : ((a8) : Int) < ((aa.length : Int) : Int) := dt_; first | exact h_ | (have e_ := (Kd.R_reads' ae.out).1; omega) | simpa using h_) (seg := [.int .i64 0, .int .i64 af, .int .i64 ag, .bool ah, .bool ai, .bool aj, .int .i64 2]) (j := 0) aP av (show 7 ≤ 7 from by decide) (x' := (⟨0, (⟨af, ag, ah, ai, aj⟩ : S96), 2⟩ : S98)) (k98_mkM _ _ _ (⟨0, (⟨af, ag, ah, ai, aj⟩ : S96), 2⟩ : S98) ) (fun _ hk => hk); have bj := av 0 _ rfl; (try simp only [show (k98).sz = 7 from rfl, Nat.mul_one, Nat.add_zero] at bj); have aZ := aA 0; (try simp only [show (k98).sz = 7 from rfl, Nat.mul_one, Nat.add_zero] at aZ); have bl := av 1 _ rfl; (try simp only [show (k98).sz = 7 from rfl, Nat.mul_one, Nat.add_zero] at bl); have b4 := aA 1; (try simp only [show (k98).sz = 7 from rfl, Nat.mul_one, Nat.add_zero] at b4); have bn := av 2 _ rfl; (try simp only [show (k98).sz = 7 from rfl, Nat.mul_one, Nat.add_zero] at bn); have b5 := aA 2; (try simp only [show (k98).sz = 7 from rfl, Nat.mul_one, Nat.add_zero] at b5); have bo := av 3 _ rfl; (try simp only [show (k98).sz = 7 from rfl, Nat.mul_one, Nat.add_zero] at bo); have b6 := aA 3; (try simp only [show (k98).sz = 7 from rfl, Nat.mul_one, Nat.add_zero] at b6); have bp := av 4 _ rfl; (try simp only [show (k98).sz = 7 from rfl, Nat.mul_one, Nat.add_zero] at bp); have b7 := aA 4; (try simp only [show (k98).sz = 7 from rfl, Nat.mul_one, Nat.add_zero] at b7); have bq := av 5 _ rfl; (try simp only [show (k98).sz = 7 from rfl, Nat.mul_one, Nat.add_zero] at bq); have b8 := aA 5; (try simp only [show (k98).sz = 7 from rfl, Nat.mul_one, Nat.add_zero] at b8); have br := av 6 _ rfl; (try simp only [show (k98).sz = 7 from rfl, Nat.mul_one, Nat.add_zero] at br); have b9 := aA 6; (try simp only [show (k98).sz = 7 from rfl, Nat.mul_one, Nat.add_zero] at b9); clear aP av aA hM22) | ((with_reducible refine cg 139 rfl ?_); refine gl_ (some 19) Try.func139 #[.slice A0 l0.length c0, .int .i64 a1, .int .i64 (wrap64 (a1 + al)), .agg #[.int .i64 af, .int .i64 ag, .bool ah, .bool ai, .bool aj]] ?_; (with_reducible refine (spec_l4Cleared.calls k _ _ l0 a1 (wrap64 (a1 + al)) af ag ah ai aj aa _ ?side1 ?side2 A6.out).mono ?_); (case side1 => exact rc ((Kd.C_below bQ.out HB.out))); (case side2 => exact bP.out); rintro e ap ⟨cW, rfl, bK, hb⟩; refine ⟨_, rfl, ?_⟩; have ae := am (Kd.R_lower bK (below_size (rb HB))); replace ac := kk ac hb; replace HB := bs HB hb; (try clear hb); (try clear d5); (try clear hk); (try clear hi); (try clear bK); have cY := z5 ac; have p9 : 0 ≤ (a1 : Int) := dt_; have q9 : (a1 : Int) < ((aa.length : Int) : Int) := dt_; obtain ⟨a9, aK, bH, bI, gl9, cl9, bG⟩ := Kd.R_form ae.out (by omega); (first | cases bH | (injection bH with ea_ en_ ec_; (first | subst ea_ | (injection ea_ with ea_; subst ea_)); subst ec_; clear en_)); have ak := am bI; have d3 := am bG; clear bI gl9 bG; obtain ⟨d4, bM, hM9, aB, aC⟩ := Kd.R_elem ae.out z98 (a1 : Int) p9 q9; obtain rfl := k98_openM hM9; have cI : ap.cell? ⟨a9, (a1 : Int).toNat * 7, none⟩ = some (.int .i64 ((rd_T98 aa a1).f0)) := aB 0 _ rfl; have cJ : ap.cell? ⟨a9, (a1 : Int).toNat * 7 + 1, none⟩ = some (.int .i64 ((rd_T98 aa a1).f1.f0)) := aB 1 _ rfl; have cK : ap.cell? ⟨a9, (a1 : Int).toNat * 7 + 2, none⟩ = some (.int .i64 ((rd_T98 aa a1).f1.f1)) := aB 2 _ rfl; have cL : ap.cell? ⟨a9, (a1 : Int).toNat * 7 + 3, none⟩ = some (.bool ((rd_T98 aa a1).f1.f2)) := aB 3 _ rfl; have cM : ap.cell? ⟨a9, (a1 : Int).toNat * 7 + 4, none⟩ = some (.bool ((rd_T98 aa a1).f1.f3)) := aB 4 _ rfl; have cN : ap.cell? ⟨a9, (a1 : Int).toNat * 7 + 5, none⟩ = some (.bool ((rd_T98 aa a1).f1.f4)) := aB 5 _ rfl; have cO : ap.cell? ⟨a9, (a1 : Int).toNat * 7 + 6, none⟩ = some (.int .i64 ((rd_T98 aa a1).f2)) := aB 6 _ rfl; have cB : ap.frozen? ⟨a9, (a1 : Int).toNat * 7, none⟩ = false := aC 0; have cC : ap.frozen? ⟨a9, (a1 : Int).toNat * 7 + 1, none⟩ = false := aC 1; have cD : ap.frozen? ⟨a9, (a1 : Int).toNat * 7 + 2, none⟩ = false := aC 2; have cE : ap.frozen? ⟨a9, (a1 : Int).toNat * 7 + 3, none⟩ = false := aC 3; have cF : ap.frozen? ⟨a9, (a1 : Int).toNat * 7 + 4, none⟩ = false := aC 4; have cG : ap.frozen? ⟨a9, (a1 : Int).toNat * 7 + 5, none⟩ = false := aC 5; have cH : ap.frozen? ⟨a9, (a1 : Int).toNat * 7 + 6, none⟩ = false := aC 6; clear bM aB aC hM9; replace p9 := eq_true p9; replace q9 := eq_true q9; have aQ := am (show Kd.R k98 98 ap w.heap.size (fun _ => True) (.slice (some ⟨a9, 0, none⟩) aa.length aK) aa from (rr ae)); obtain ⟨cS, aO, hM19, au, az⟩ := Kd.R_elem aQ.out z98 (a1 : Int) dt_ (by have h_ : (a1 : Int) < ((aa.length : Int) : Int) := dt_; first | exact h_ | (have e_ := (Kd.R_reads' ae.out).1; omega) | simpa using h_); obtain rfl := k98_openM hM19; have aE := Kd.R_seg aQ.out (a1 : Int) dt_ (by have h_ : (a1 : Int) < ((aa.length : Int) : Int) := dt_; first | exact h_ | (have e_ := (Kd.R_reads' ae.out).1; omega) | simpa using h_) (seg := [.int .i64 a2, .int .i64 af, .int .i64 ag, .bool ah, .bool ai, .bool aj, .int .i64 (wrap64 (al - 1))]) (j := 0) aO au (show 7 ≤ 7 from by decide) (x' := (⟨a2, (⟨af, ag, ah, ai, aj⟩ : S96), wrap64 (al - 1)⟩ : S98)) (k98_mkM _ _ _ (⟨a2, (⟨af, ag, ah, ai, aj⟩ : S96), wrap64 (al - 1)⟩ : S98) ) (fun _ hk => hk); have ba := au 0 _ rfl; (try simp only [show (k98).sz = 7 from rfl, Nat.mul_one, Nat.add_zero] at ba); have aS := az 0; (try simp only [show (k98).sz = 7 from rfl, Nat.mul_one, Nat.add_zero] at aS); have bb := au 1 _ rfl; (try simp only [show (k98).sz = 7 from rfl, Nat.mul_one, Nat.add_zero] at bb); have aT := az 1; (try simp only [show (k98).sz = 7 from rfl, Nat.mul_one, Nat.add_zero] at aT); have bc := au 2 _ rfl; (try simp only [show (k98).sz = 7 from rfl, Nat.mul_one, Nat.add_zero] at bc); have aU := az 2; (try simp only [show (k98).sz = 7 from rfl, Nat.mul_one, Nat.add_zero] at aU); have bf := au 3 _ rfl; (try simp only [show (k98).sz = 7 from rfl, Nat.mul_one, Nat.add_zero] at bf); have aV := az 3; (try simp only [show (k98).sz = 7 from rfl, Nat.mul_one, Nat.add_zero] at aV); have bg := au 4 _ rfl; (try simp only [show (k98).sz = 7 from rfl, Nat.mul_one, Nat.add_zero] at bg); have aW := az 4; (try simp only [show (k98).sz = 7 from rfl, Nat.mul_one, Nat.add_zero] at aW); have bh := au 5 _ rfl; (try simp only [show (k98).sz = 7 from rfl, Nat.mul_one, Nat.add_zero] at bh); have aX := az 5; (try simp only [show (k98).sz = 7 from rfl, Nat.mul_one, Nat.add_zero] at aX); have bi := au 6 _ rfl; (try simp only [show (k98).sz = 7 from rfl, Nat.mul_one, Nat.add_zero] at bi); have aY := az 6; (try simp only [show (k98).sz = 7 from rfl, Nat.mul_one, Nat.add_zero] at aY); clear aO au az hM19) | ((with_reducible refine gate_store (t := 98) (p := 35) rfl ?_); refine store_event (t := 98) (p := 35) (v := ?cv) (w1 := (((((((ao.setCell ⟨a9, ((a8) : Int).toNat * 7, none⟩ (.int .i64 0)).setCell ⟨a9, ((a8) : Int).toNat * 7 + 1, none⟩ (.int .i64 af)).setCell ⟨a9, ((a8) : Int).toNat * 7 + 2, none⟩ (.int .i64 ag)).setCell ⟨a9, ((a8) : Int).toNat * 7 + 3, none⟩ (.bool ah)).setCell ⟨a9, ((a8) : Int).toNat * 7 + 4, none⟩ (.bool ai)).setCell ⟨a9, ((a8) : Int).toNat * 7 + 5, none⟩ (.bool aj)).setCell ⟨a9, ((a8) : Int).toNat * 7 + 6, none⟩ (.int .i64 2))) ?hg ?ho ?hn ?hr ?_; (case ho => rfl); (case hg => rfl); (case hn => rfl); (case hr => first | (go_simp; done) | (go_simp; rfl)); intro bv hw; have hg : ao.grownBy bv (some a9) := (by rw [hw]; exact aM.2); have hp_ : Kd.R k98 98 bv w.heap.size (fun _ => True) (.slice (some ⟨a9, 0, none⟩) aa.length aK) bz := (by rw [hw, bB.out]; exact aM.1); clear aM; replace ac := am (blk_grown (rk ac) hg (Kd.R_ne ae.out ac.out (by decide))); replace ae := am (hp_); replace HB := am ((by rw [hw]; exact below_set (below_set (below_set (below_set (below_set (below_set (below_set (HB.out) ak.out) ak.out) ak.out) ak.out) ak.out) ak.out) ak.out : Below w.heap.size w bv)); clear hg hw hp_) | ((with_reducible refine gate_store (t := 98) (p := 27) rfl ?_); refine store_event (t := 98) (p := 27) (v := ?cw) (w1 := (((((((ap.setCell ⟨a9, (a1 : Int).toNat * 7, none⟩ (.int .i64 a2)).setCell ⟨a9, (a1 : Int).toNat * 7 + 1, none⟩ (.int .i64 af)).setCell ⟨a9, (a1 : Int).toNat * 7 + 2, none⟩ (.int .i64 ag)).setCell ⟨a9, (a1 : Int).toNat * 7 + 3, none⟩ (.bool ah)).setCell ⟨a9, (a1 : Int).toNat * 7 + 4, none⟩ (.bool ai)).setCell ⟨a9, (a1 : Int).toNat * 7 + 5, none⟩ (.bool aj)).setCell ⟨a9, (a1 : Int).toNat * 7 + 6, none⟩ (.int .i64 (wrap64 (al - 1))))) ?hg ?ho ?hn ?hr ?_; (case ho => rfl); (case hg => rfl); (case hn => rfl); (case hr => first | (go_simp; done) | (go_simp; rfl)); intro bw hw; have hg : ap.grownBy bw (some a9) := (by rw [hw]; exact aE.2); have hp_ : Kd.R k98 98 bw w.heap.size (fun _ => True) (.slice (some ⟨a9, 0, none⟩) aa.length aK) aq := (by rw [hw, aN.out]; exact aE.1); clear aE; replace ac := am (blk_grown (rk ac) hg (Kd.R_ne ae.out ac.out (by decide))); replace ae := am (hp_); replace HB := am ((by rw [hw]; exact below_set (below_set (below_set (below_set (below_set (below_set (below_set (HB.out) ak.out) ak.out) ak.out) ak.out) ak.out) ak.out) ak.out : Below w.heap.size w bw)); clear hg hw hp_) | ((with_reducible refine cg 120 rfl ?_); refine gl_ (some 12) Try.func120 #[.int .i64 a2] ?_; (with_reducible refine (spec_Width.calls k a2 al _ A5.out).mono ?_); rintro e w' ⟨rfl, ⟨nd, rfl⟩⟩; refine ⟨_, rfl, ?_⟩; (try (rw [drewN_self aL]; generalize hq_ : World.drewN aL _ = aL; have n0_ : Aside0 (aL.heap[bE]? = some (.cells #[.int .i64 af, .int .i64 ag, .bool ah, .bool ai, .bool aj] 96 (0, 0))) := ⟨by rw [← hq_]; exact (rk ac)⟩; have n1_ : Aside0 (Below w.heap.size w aL) := ⟨by rw [← hq_]; exact (rb HB)⟩; clear ac HB hq_; have ac := n0_; have HB := n1_; clear n0_ n1_)); have cX := z5 ac) | (refine bx 7 #[.int .i64 af, .int .i64 ag, .bool ah, .bool ai, .bool aj] 96 ?_; intro bE hg aL hbox hb; have ac := am (hbox); have bA := am (gw hg (rb HB)); have cy := bA; replace HB := bs HB hb; clear hb hbox hg))
go_ret
first
| (
have q_ := bN
exact ⟨_, by first | rfl | (simp [errW_none, errW_some] <;> rfl) | (simp only [← aD]; first | rfl | (simp [errW_none, errW_some] <;> rfl)) | (simp [*, errW_none, errW_some] <;> rfl), qR_ ae, rb HB⟩
)
| (
have q_ := bO
exact ⟨_, ew, qR_ ae, rb HB⟩
)
)
)

/-! ### spec_l3Draw: function 127 -/
def spec_l3Draw.f (a9 : List Int) (ah : Int) (ai : Int) : Option (Int × Int × Bool × Bool × Bool × Int × Int) := (spec_l1Once.f a9 ah ai 3).bind fun a8 => (if a8.1 = true then (some (0, 0, false, false, false, a8.2.1, a8.2.2)) else ((spec_l1Below.f a9 a8.2.1 a8.2.2 9).bind fun aa => ((spec_l1Below.f a9 aa.2.1 aa.2.2 9).bind fun ac => ((spec_l1Once.f a9 ac.2.1 ac.2.2 3).bind fun ae => ((spec_l1Once.f a9 ae.2.1 ae.2.2 4).bind fun af => ((spec_l1Once.f a9 af.2.1 af.2.2 4).bind fun ag => (some (aa.1, ac.1, ae.1, af.1, ag.1, ag.2.1, ag.2.2))))))))
set_option maxHeartbeats 8000000 in
set_option maxRecDepth 100000 in
theorem spec_l3Draw.calls (g : Nat) (aa : List Int) (ag : Int) (ah : Int) (r1 : Int) (r2 : Int) (r3 : Bool) (r4 : Bool) (r5 : Bool) (r6 : Int) (r7 : Int) (w0 w : World) (hI : IsS118 w0 w g aa ag ah) (hB : Below w0.heap.size w0 w) (h : spec_l3Draw.f aa ag ah = some (r1, r2, r3, r4, r5, r6, r7)) :
  Calls Try.prog 127 #[.pointer (some ⟨g, 0, none⟩)] w fun e w' => e = .returned (.agg #[.int .i64 r1, .int .i64 r2, .bool r3, .bool r4, .bool r5]) ∧ IsS118 w0 w' g aa r6 r7 ∧ Below w0.heap.size w0 w' ∧ KeepBut w w' g none := by
 (
have aR := Try.underlying96
have a9 := am hI
have HK := am (KeepBut.refl w g none)
have HL := am hB.size
clear hI
have aM := am hB.size
have HB := am hB
clear hB
have H := h
unfold spec_l3Draw.f at H
clear h
obtain ⟨⟨aG, ai, aj⟩, A2, H⟩ := bd H
(try dsimp only at H)
refine em_ (p := aG = true) (fun c3 => ?aO) (fun c3 => ?aN)
case' aO => (
subst c3
rw [if_pos rfl] at H
simp only [Option.some.injEq, Prod.mk.injEq] at H
obtain ⟨rfl, rfl, rfl, rfl, rfl, rfl, rfl⟩ := H
have aE := trivial
)
case' aN => (
replace c3 := Bool.eq_false_iff.mpr c3
subst c3
rw [if_neg (show ¬ (false = true) by decide)] at H
obtain ⟨⟨al, ao, ap⟩, A8, H⟩ := bd H
(try dsimp only at H)
obtain ⟨⟨aq, au, av⟩, A9, H⟩ := bd H
(try dsimp only at H)
obtain ⟨⟨ax, ay, az⟩, aJ, H⟩ := bd H
(try dsimp only at H)
obtain ⟨⟨aA, aB, aC⟩, aK, H⟩ := bd H
(try dsimp only at H)
obtain ⟨⟨aD, aH, aI⟩, aL, H⟩ := bd H
(try dsimp only at H)
simp only [Option.some.injEq, Prod.mk.injEq] at H
obtain ⟨rfl, rfl, rfl, rfl, rfl, rfl, rfl⟩ := H
have aF := trivial
)
all_goals (
go_enter Try.func127, Try.ntmps127
go_wp2_with (first | (refine bx 2 #[.int .i64 0, .int .i64 0, .bool false, .bool false, .bool false] 96 ?_; intro af hg w4 hbox hb; replace HB := bsi HB hb; have a8 := am (hbox); have aQ := am (gk hg HK); have aP := am ((Nat.le_trans aM.out (gk hg HK) : w0.heap.size ≤ af)); replace HK := kb HK hb; have ak := am (il118 hg a9); have ac := ns ak; replace a9 := am (IsS118.below (ri118 a9) hb); clear hb hbox hg) | ((with_reducible refine cg 51 rfl ?_); refine gl_ (some 15) Try.func51 #[.pointer (some ⟨g, 0, none⟩), .int .i64 4] ?_; (with_reducible refine (spec_l1Once.calls g aa aB aC 4 aD aH aI w0 _ ?side1 ?side2 aL.out).mono ?_); (case side1 => exact ri118 a9); (case side2 => exact rbi HB); rintro e b4 ⟨rfl, hi, hb, hk⟩; refine ⟨_, rfl, ?_⟩; replace a8 := kh a8 hk; replace HK := kt HK hk; replace HB := am (hb); replace a9 := am (hi); (try clear hb); (try clear ae); (try clear hk); (try clear hi); have aS := nN ac; have aT := z5 a8) | ((with_reducible refine cg 51 rfl ?_); refine gl_ (some 4) Try.func51 #[.pointer (some ⟨g, 0, none⟩), .int .i64 3] ?_; (with_reducible refine (spec_l1Once.calls g aa ag ah 3 true ai aj w0 _ ?side1 ?side2 A2.out).mono ?_); (case side1 => exact ri118 a9); (case side2 => exact rbi HB); rintro e w5 ⟨rfl, hi, hb, hk⟩; refine ⟨_, rfl, ?_⟩; replace a8 := kh a8 hk; replace HK := kt HK hk; replace HB := am (hb); replace a9 := am (hi); (try clear hb); (try clear ae); (try clear hk); (try clear hi); have aU := nN ac; have b5 := z5 a8) | ((with_reducible refine cg 51 rfl ?_); refine gl_ (some 11) Try.func51 #[.pointer (some ⟨g, 0, none⟩), .int .i64 3] ?_; (with_reducible refine (spec_l1Once.calls g aa au av 3 ax ay az w0 _ ?side1 ?side2 aJ.out).mono ?_); (case side1 => exact ri118 a9); (case side2 => exact rbi HB); rintro e aY ⟨rfl, hi, hb, hk⟩; refine ⟨_, rfl, ?_⟩; replace a8 := kh a8 hk; replace HK := kt HK hk; replace HB := am (hb); replace a9 := am (hi); (try clear hb); (try clear ae); (try clear hk); (try clear hi)) | ((with_reducible refine cg 51 rfl ?_); refine gl_ (some 13) Try.func51 #[.pointer (some ⟨g, 0, none⟩), .int .i64 4] ?_; (with_reducible refine (spec_l1Once.calls g aa ay az 4 aA aB aC w0 _ ?side1 ?side2 aK.out).mono ?_); (case side1 => exact ri118 a9); (case side2 => exact rbi HB); rintro e aZ ⟨rfl, hi, hb, hk⟩; refine ⟨_, rfl, ?_⟩; replace a8 := kh a8 hk; replace HK := kt HK hk; replace HB := am (hb); replace a9 := am (hi); (try clear hb); (try clear ae); (try clear hk); (try clear hi)) | ((with_reducible refine cg 51 rfl ?_); refine gl_ (some 4) Try.func51 #[.pointer (some ⟨g, 0, none⟩), .int .i64 3] ?_; (with_reducible refine (spec_l1Once.calls g aa ag ah 3 false ai aj w0 _ ?side1 ?side2 A2.out).mono ?_); (case side1 => exact ri118 a9); (case side2 => exact rbi HB); rintro e aV ⟨rfl, hi, hb, hk⟩; refine ⟨_, rfl, ?_⟩; replace a8 := kh a8 hk; replace HK := kt HK hk; replace HB := am (hb); replace a9 := am (hi); (try clear hb); (try clear ae); (try clear hk); (try clear hi)) | ((with_reducible refine cg 52 rfl ?_); refine gl_ (some 7) Try.func52 #[.pointer (some ⟨g, 0, none⟩), .int .i64 9] ?_; (with_reducible refine (spec_l1Below.calls g aa ai aj 9 al ao ap w0 _ ?side1 ?side2 A8.out).mono ?_); (case side1 => exact ri118 a9); (case side2 => exact rbi HB); rintro e aW ⟨rfl, hi, hb, hk⟩; refine ⟨_, rfl, ?_⟩; replace a8 := kh a8 hk; replace HK := kt HK hk; replace HB := am (hb); replace a9 := am (hi); (try clear hb); (try clear ae); (try clear hk); (try clear hi)) | ((with_reducible refine cg 52 rfl ?_); refine gl_ (some 9) Try.func52 #[.pointer (some ⟨g, 0, none⟩), .int .i64 9] ?_; (with_reducible refine (spec_l1Below.calls g aa ao ap 9 aq au av w0 _ ?side1 ?side2 A9.out).mono ?_); (case side1 => exact ri118 a9); (case side2 => exact rbi HB); rintro e aX ⟨rfl, hi, hb, hk⟩; refine ⟨_, rfl, ?_⟩; replace a8 := kh a8 hk; replace HK := kt HK hk; replace HB := am (hb); replace a9 := am (hi); (try clear hb); (try clear ae); (try clear hk); (try clear hi)))
first
| (
have q_ := aF
refine bodyPost_ret (results_cell_row rfl _ _ af 96 #[.int .i64 al, .int .i64 aq, .bool ax, .bool aA, .bool aD] (0, 0) _ rfl (rk a8) Try.underlying96 rfl (by kernel_rfl)) rfl ?_
exact ⟨ew, ri118 a9, rbi HB, rkk HK⟩
)
| (
have q_ := aE
refine bodyPost_ret (results_cell_row rfl _ _ af 96 #[.int .i64 0, .int .i64 0, .bool false, .bool false, .bool false] (0, 0) _ rfl (rk a8) Try.underlying96 rfl (by kernel_rfl)) rfl ?_
exact ⟨ew, ri118 a9, rbi HB, rkk HK⟩
)
)
)

/-! ### spec_l4Draw: function 113 -/
def spec_l4Draw.l0 : Nat → Int → List (S98) → Int → List Int → Int → Int → Option ((List (S98)) × Int × Int)
 | 0, _, _, _, _, _, _ => none
 | k + 1, x1, x5, x6, aa, ae, af => if x6 > 0 then ((spec_l4DrawRune.f aa ae af).bind fun ac => ((spec_l1Below.f aa ac.2.1 ac.2.2 x1).bind fun a9 => ((spec_Width.f k ac.1).bind fun ag => (if (wrap64 (a9.1 + ag)) ≤ x1 then ((spec_l3Draw.f aa a9.2.1 a9.2.2).bind fun a8 => ((spec_l4Written.f k x5 a9.1 ac.1 a8.1 a8.2.1 a8.2.2.1 a8.2.2.2.1 a8.2.2.2.2.1).bind fun ah => (spec_l4Draw.l0 k x1 ah (wrap64 (x6 - 1)) aa a8.2.2.2.2.2.1 a8.2.2.2.2.2.2))) else (spec_l4Draw.l0 k x1 x5 (wrap64 (x6 - 1)) aa a9.2.1 a9.2.2))))) else (some (x5, ae, af))
def spec_l4Draw.f (k : Nat) (a9 : List Int) (aa : Int) (ac : Int) (a1 : Int) : Option ((List (S98)) × Int × Int) := (spec_l4Row.f k a1 0 0 false false false).bind fun ae => ((spec_l1Below.f a9 aa ac 7).bind fun a8 => (spec_l4Draw.l0 k a1 ae a8.1 a9 a8.2.1 a8.2.2))
theorem spec_l4Draw.mono_l : ∀ k, (∀ y0 y1 y2 y3 y4 y5, LeO (spec_l4Draw.l0 k y0 y1 y2 y3 y4 y5) (spec_l4Draw.l0 (k + 1) y0 y1 y2 y3 y4 y5))
 | 0 => fun _ _ _ _ _ _ r h => by simp [spec_l4Draw.l0] at h
 | k + 1 => by
  have ih0 := spec_l4Draw.mono_l k
  ·intro y0 y1 y2 y3 y4 y5
   unfold spec_l4Draw.l0
   repeat' first
   | (with_reducible exact ih0 _ _ _ _ _ _)
   | (with_reducible exact spec_Width.mono _ _)
   | (with_reducible exact spec_l4Row.mono _ _ _ _ _ _ _)
   | (with_reducible exact spec_l4Written.mono _ _ _ _ _ _ _ _ _)
   | (with_reducible exact LeO.refl _)
   | (with_reducible exact LeO.none _)
   | (with_reducible refine LeO.ite ?_ ?_)
   | (with_reducible refine LeO.bind ?_ (fun _ => ?_))
theorem spec_l4Draw.mono : ∀ a0 a1 a2 a3 k, LeO (spec_l4Draw.f k a0 a1 a2 a3) (spec_l4Draw.f (k + 1) a0 a1 a2 a3) := by
 intro a0 a1 a2 a3 k
 have ih0 := spec_l4Draw.mono_l k
 unfold spec_l4Draw.f
 repeat' first
   | (with_reducible exact ih0 _ _ _ _ _ _)
   | (with_reducible exact spec_Width.mono _ _)
   | (with_reducible exact spec_l4Row.mono _ _ _ _ _ _ _)
   | (with_reducible exact spec_l4Written.mono _ _ _ _ _ _ _ _ _)
   | (with_reducible exact LeO.refl _)
   | (with_reducible exact LeO.none _)
   | (with_reducible refine LeO.ite ?_ ?_)
   | (with_reducible refine LeO.bind ?_ (fun _ => ?_))
set_option maxHeartbeats 8000000 in
set_option maxRecDepth 100000 in
theorem spec_l4Draw.calls (k : Nat) (g : Nat) (aa : List Int) (ao : Int) (ap : Int) (a1 : Int) (r1 : List (S98)) (r2 : Int) (r3 : Int) (w0 w : World) (hI : IsS118 w0 w g aa ao ap) (hB : Below w0.heap.size w0 w) (h : spec_l4Draw.f k aa ao ap a1 = some (r1, r2, r3)) :
  Calls Try.prog 113 #[.pointer (some ⟨g, 0, none⟩), .int .i64 a1] w fun e w' => ∃ v0_ : Value, e = .returned (v0_) ∧ Kd.R k98 98 w' w.heap.size (fun _ => True) v0_ r1 ∧ IsS118 w0 w' g aa r2 r3 ∧ Below w0.heap.size w0 w' ∧ KeepBut w w' g none := by
 (
have b4 := Try.underlying96
have a8 := am hI
have HK := am (KeepBut.refl w g none)
have HL := am hB.size
clear hI
have b7 := am hB.size
have HB := am hB
clear hB
have H := h
unfold spec_l4Draw.f at H
clear h
obtain ⟨aG, A3, H⟩ := bd H
(try dsimp only at H)
obtain ⟨⟨aH, aI, aJ⟩, A4, H⟩ := bd H
(try dsimp only at H)
have H' := am H
clear H
go_enter Try.func113, Try.ntmps113
go_wp2_with (first | ((with_reducible refine cg 100 rfl ?_); refine gl_ (some 11) Try.func100 #[.int .i64 a1, .agg #[.int .i64 0, .int .i64 0, .bool false, .bool false, .bool false]] ?_; (with_reducible refine (spec_l4Row.calls k a1 0 0 false false false aG _ A3.out).mono ?_); rintro e w5 ⟨b5, rfl, ak, hb⟩; refine ⟨_, rfl, ?_⟩; have al := am (Kd.R_lower ak (ks HK)); replace HK := kb HK hb; replace HB := bsi HB hb; replace a8 := am (IsS118.below (ri118 a8) hb); (try clear hb); (try clear ax); (try clear hk); (try clear hi); (try clear ak)) | ((with_reducible refine cg 52 rfl ?_); refine gl_ (some 13) Try.func52 #[.pointer (some ⟨g, 0, none⟩), .int .i64 7] ?_; (with_reducible refine (spec_l1Below.calls g aa ao ap 7 aH aI aJ w0 _ ?side1 ?side2 A4.out).mono ?_); (case side1 => exact ri118 a8); (case side2 => exact rbi HB); rintro e w6 ⟨rfl, hi, hb, hk⟩; refine ⟨_, rfl, ?_⟩; replace al := am (Kd.R_mono (Kd.R_keep (IsS118.apart (show IsS118 w0 _ g aa ao ap from ri118 a8) (rr al) (by decide)) hk (fun _ h => h.2)) (fun _ h => h.1)); replace HK := kt HK hk; replace HB := am (hb); replace a8 := am (hi); (try clear hb); (try clear ax); (try clear hk); (try clear hi)))
go_loopg [5, 6] k (fun kq v5 v6 w' => ∃ (ah : List (S98)) (af : Int) (ac : Int) (ae : Int), v6 = .int .i64 af ∧ Aside0 (spec_l4Draw.l0 kq a1 ah af aa ac ae = some (r1, r2, r3)) ∧ Aside0 (kq ≤ k) ∧ Aside0 (Kd.R k98 98 w' w.heap.size (fun _ => True) v5 ah) ∧ Aside0 (IsS118 w0 w' g aa ac ae) ∧ Aside0 (KeepBut w w' g none) ∧ Aside0 (Below w0.heap.size w0 w'))
case atStart => exact ⟨(aG), (aH), (aI), (aJ), sd, H', ⟨Nat.le_refl _⟩, ⟨rr al⟩, ⟨ri118 a8⟩, ⟨rkk HK⟩, ⟨rbi HB⟩⟩
case round => (
clear H'
obtain ⟨ah, af, ac, ae, rfl, HA, aF, a9, a8, HK, HB⟩ := hrel
cases gk with
| zero => exact absurd HA.out (by simp [spec_l4Draw.l0])
| succ k1 => (
have H := HA.out
clear HA
simp only [spec_l4Draw.l0] at H
by_cases c7 : af > 0
·(
rw [if_pos c7] at H
have aQ : decide (0 < af) = true := decide_eq_true c7
clear c7
obtain ⟨⟨aj, ay, az⟩, A8, H⟩ := bd H
(try dsimp only at H)
obtain ⟨⟨ag, aq, au⟩, A9, H⟩ := bd H
(try dsimp only at H)
obtain ⟨av, aV, H⟩ := bd H
(try dsimp only at H)
refine em_ (p := (wrap64 (ag + av)) ≤ a1) (fun ai => ?aZ) (fun ai => ?aY)
case' aZ => (
rw [if_pos ai] at H
have aO : decide ((wrap64 (ag + av)) ≤ a1) = true := decide_eq_true ai
clear ai
obtain ⟨⟨aA, aB, aC, aD, aE, aK, aL⟩, aW, H⟩ := bd H
(try dsimp only at H)
obtain ⟨aM, aX, H⟩ := bd H
(try dsimp only at H)
have H' := am H
clear H
have aT := trivial
)
case' aY => (
rw [if_neg ai] at H
have aO : decide ((wrap64 (ag + av)) ≤ a1) = false := decide_eq_false ai
clear ai
have H' := am H
clear H
have aU := trivial
)
all_goals (
go_wp2_with (first | ((with_reducible refine cg 126 rfl ?_); refine gl_ (some 34) Try.func126 #[.slice aP ah.length aR, .int .i64 ag, .int .i64 aj, .agg #[.int .i64 aA, .int .i64 aB, .bool aC, .bool aD, .bool aE]] ?_; (with_reducible refine (spec_l4Written.calls k1 _ _ ah ag aj aA aB aC aD aE aM _ ?side1 ?side2 aX.out).mono ?_); (case side1 => repeat (first | exact (Kd.R_reads' a9.out).2.2 | (with_reducible refine Kd.C_alloc ?_ _) | (with_reducible refine Kd.C_drewN ?_ _) | (with_reducible refine Kd.C_drew ?_))); (case side2 => exact (Kd.R_reads' a9.out).2.1); rintro e bb ⟨b6, rfl, ak, hb⟩; refine ⟨_, rfl, ?_⟩; have aN := am (Kd.R_lower (Kd.R_new' ak (Kd.R_lt (rr a9))) (ks HK)); replace a9 := am (Kd.R_elder' (rr a9) (Kd.R_base ak) hb); replace HK := kb HK hb; replace HB := bsi HB hb; replace a8 := am (IsS118.below (ri118 a8) hb); (try clear hb); (try clear ax); (try clear hk); (try clear hi); (try clear ak)) | ((with_reducible refine cg 127 rfl ?_); refine gl_ (some 33) Try.func127 #[.pointer (some ⟨g, 0, none⟩)] ?_; (with_reducible refine (spec_l3Draw.calls g aa aq au aA aB aC aD aE aK aL w0 _ ?side1 ?side2 aW.out).mono ?_); (case side1 => exact ri118 a8); (case side2 => exact rbi HB); rintro e ba ⟨rfl, hi, hb, hk⟩; refine ⟨_, rfl, ?_⟩; replace a9 := am (Kd.R_mono (Kd.R_keep (IsS118.apart (show IsS118 w0 _ g aa aq au from ri118 a8) (rr a9) (by decide)) hk (fun _ h => h.2)) (fun _ h => h.1)); replace HK := kt HK hk; replace HB := am (hb); replace a8 := am (hi); (try clear hb); (try clear ax); (try clear hk); (try clear hi); obtain ⟨aP, aR, aS⟩ := Kd.R_slice a9.out; subst aS) | ((with_reducible refine cg 125 rfl ?_); refine gl_ (some 19) Try.func125 #[.pointer (some ⟨g, 0, none⟩)] ?_; (with_reducible refine (spec_l4DrawRune.calls g aa ac ae aj ay az w0 _ ?side1 ?side2 A8.out).mono ?_); (case side1 => exact ri118 a8); (case side2 => exact rbi HB); rintro e b8 ⟨rfl, hi, hb, hk⟩; refine ⟨_, rfl, ?_⟩; replace a9 := am (Kd.R_mono (Kd.R_keep (IsS118.apart (show IsS118 w0 _ g aa ac ae from ri118 a8) (rr a9) (by decide)) hk (fun _ h => h.2)) (fun _ h => h.1)); replace HK := kt HK hk; replace HB := am (hb); replace a8 := am (hi); (try clear hb); (try clear ax); (try clear hk); (try clear hi)) | ((with_reducible refine cg 52 rfl ?_); refine gl_ (some 22) Try.func52 #[.pointer (some ⟨g, 0, none⟩), .int .i64 a1] ?_; (with_reducible refine (spec_l1Below.calls g aa ay az a1 ag aq au w0 _ ?side1 ?side2 A9.out).mono ?_); (case side1 => exact ri118 a8); (case side2 => exact rbi HB); rintro e b9 ⟨rfl, hi, hb, hk⟩; refine ⟨_, rfl, ?_⟩; replace a9 := am (Kd.R_mono (Kd.R_keep (IsS118.apart (show IsS118 w0 _ g aa ay az from ri118 a8) (rr a9) (by decide)) hk (fun _ h => h.2)) (fun _ h => h.1)); replace HK := kt HK hk; replace HB := am (hb); replace a8 := am (hi); (try clear hb); (try clear ax); (try clear hk); (try clear hi)) | ((with_reducible refine cg 120 rfl ?_); refine gl_ (some 25) Try.func120 #[.int .i64 aj] ?_; (with_reducible refine (spec_Width.calls k1 aj av _ aV.out).mono ?_); rintro e w' ⟨rfl, ⟨nd, rfl⟩⟩; refine ⟨_, rfl, ?_⟩))
go_roundg k1
case measure => have := aF.out; omega
first
| (
have q_ := aT
case rel => exact ⟨(aM), (wrap64 (af - 1)), (aK), (aL), sd, H', ⟨by have := aF.out; omega⟩, ⟨Rm0 aN⟩, ⟨ri118 a8⟩, ⟨rkk HK⟩, ⟨rbi HB⟩⟩
)
| (
have q_ := aU
case rel => exact ⟨(ah), (wrap64 (af - 1)), (aq), (au), sd, H', ⟨by have := aF.out; omega⟩, ⟨rr a9⟩, ⟨ri118 a8⟩, ⟨rkk HK⟩, ⟨rbi HB⟩⟩
)
)
)
·(
rw [if_neg c7] at H
have aQ : decide (0 < af) = false := decide_eq_false c7
clear c7
simp only [Option.some.injEq, Prod.mk.injEq] at H
obtain ⟨rfl, rfl, rfl⟩ := H
go_wp2
go_ret
exact ⟨_, ew, qR_ a9, ri118 a8, rbi HB, rkk HK⟩
)
)
)
)

end Go.Proofs.Ytalopdcephohgaa.RD
