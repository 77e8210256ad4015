/- Contracts of Go functions that laws of this seat reach: each Lean function answers as its Go function does. No condition. Written by wip/tools/inj.py, over the kit's print. -/
import Derived.Test.YtalopdcephohgaaRDx0
import Derived.Test.YtalopdcephohgaaRDx8
import Derived.Test.YtalopdcephohgaaRDx24
import Derived.Test.YtalopdcephohgaaRDx26
import Derived.Test.YtalopdcephohgaaRDx27
namespace Go.Proofs.Ytalopdcephohgaa.RD
open Go.RowKit Go.Proofs.YtalopdcephohgaaW.PrintWords Go.Proofs.YtalopdcephohgaaW.PrintLast Go.Proofs.YtalopdcephohgaaW.PrintMore
attribute [local go_sem] max2_int min2_int max_two min_two max_three min_three max_four min_four   -- for this text's walks alone
set_option linter.unusedVariables false
set_option linter.unusedSimpArgs false

/-! ### spec_l5DrawAny: function 84 -/
def spec_l5DrawAny.l0 : Nat → List Int → Int → Int → Int → List (List (S98)) → Option (Int × (List (List (S98))) × Int × Int)
 | 0, _, _, _, _, _ => none
 | k + 1, ac, ae, af, aa, a8 => (spec_l1Below.f ac ae af 2).bind fun a9 => (if (a8.length : Int) < (wrap64 (30 + a9.1)) then ((spec_l4Row.f k aa 0 0 false false false).bind fun ag => (if a8.length < 5864062014805 then (spec_l5DrawAny.l0 k ac a9.2.1 a9.2.2 aa (a8 ++ [ag])) else (none))) else (some (aa, a8, a9.2.1, a9.2.2)))
def spec_l5DrawAny.f (k : Nat) (ae : List Int) (ah : Int) (ai : Int) : Option (Int × (List (List (S98))) × Int × Int) := (spec_l5Draw.f k ae ah ai).bind fun a8 => ((spec_l1Once.f ae a8.2.2.1 a8.2.2.2 12).bind fun aa => (if aa.1 = true then ((spec_l1Below.f ae aa.2.1 aa.2.2 3).bind fun a9 => (if a9.1 = 0 then ((some (([0, wrap64 (a8.1 + 1), 61] : List Int) : List Int)).bind fun ag => ((spec_l1Below.f ae a9.2.1 a9.2.2 3).bind fun ac => (if 0 ≤ ac.1 then (if ac.1 < (ag.length : Int) then (some (rd ag ac.1, a8.2.1, ac.2.1, ac.2.2)) else (none)) else (none)))) else (if a9.1 = 1 then ((spec_l4DrawAny.f k ae a9.2.1 a9.2.2).bind fun af => (if 0 < (a8.2.1.length : Int) then (some (a8.1, (a8.2.1.set (0 : Int).toNat af.1), af.2.1, af.2.2)) else (none))) else (if a9.1 = 2 then (spec_l5DrawAny.l0 k ae a9.2.1 a9.2.2 a8.1 a8.2.1) else (some (a8.1, a8.2.1, a9.2.1, a9.2.2)))))) else (some (a8.1, a8.2.1, aa.2.1, aa.2.2))))
theorem spec_l5DrawAny.mono_l : ∀ k, (∀ y0 y1 y2 y3 y4, LeO (spec_l5DrawAny.l0 k y0 y1 y2 y3 y4) (spec_l5DrawAny.l0 (k + 1) y0 y1 y2 y3 y4))
 | 0 => fun _ _ _ _ _ r h => by simp [spec_l5DrawAny.l0] at h
 | k + 1 => by
  have ih0 := spec_l5DrawAny.mono_l k
  ·intro y0 y1 y2 y3 y4
   unfold spec_l5DrawAny.l0
   repeat' first
   | (with_reducible exact ih0 _ _ _ _ _)
   | (with_reducible exact spec_l4DrawAny.mono _ _ _ _)
   | (with_reducible exact spec_l4Row.mono _ _ _ _ _ _ _)
   | (with_reducible exact spec_l5Draw.mono _ _ _ _)
   | (with_reducible exact LeO.refl _)
   | (with_reducible exact LeO.none _)
   | (with_reducible refine LeO.ite ?_ ?_)
   | (with_reducible refine LeO.bind ?_ (fun _ => ?_))
theorem spec_l5DrawAny.mono : ∀ a0 a1 a2 k, LeO (spec_l5DrawAny.f k a0 a1 a2) (spec_l5DrawAny.f (k + 1) a0 a1 a2) := by
 intro a0 a1 a2 k
 have ih0 := spec_l5DrawAny.mono_l k
 unfold spec_l5DrawAny.f
 repeat' first
   | (with_reducible exact ih0 _ _ _ _ _)
   | (with_reducible exact spec_l4DrawAny.mono _ _ _ _)
   | (with_reducible exact spec_l4Row.mono _ _ _ _ _ _ _)
   | (with_reducible exact spec_l5Draw.mono _ _ _ _)
   | (with_reducible exact LeO.refl _)
   | (with_reducible exact LeO.none _)
   | (with_reducible refine LeO.ite ?_ ?_)
   | (with_reducible refine LeO.bind ?_ (fun _ => ?_))
def spec_l5DrawAny.T5 : Bool × List (List Nat × List Nat) := (true, [([], []), ([0], [0]), ([1], [1]), ([2], [2]), ([], []), ([4], [4]), ([3, 5], [3, 5]), ([6], [6]), ([0, 1, 2, 3, 4, 5, 6, 7], []), ([8, 7, 5, 0, 1, 2, 3, 4, 5, 6, 7], [7, 8])])
def spec_l5DrawAny.B5 : List Nat := [0, 1, 3, 7, 0, 16, 63, 127, 255, 511]
theorem spec_l5DrawAny.tab5 : rtab .any (opsOf Try.f84 5) = spec_l5DrawAny.T5 := by kernel_rfl
theorem spec_l5DrawAny.bits5 : waitsOk spec_l5DrawAny.T5.2 spec_l5DrawAny.B5 = true := by kernel_rfl
def spec_l5DrawAny.T10 : Bool × List (List Nat × List Nat) := (true, [([], []), ([0], [0]), ([], []), ([2], [2]), ([], []), ([3, 4], [3, 4]), ([5], [5]), ([1, 6, 5], [1, 6]), ([0, 1, 2, 3, 4, 5, 6, 7], []), ([8, 7, 7, 0, 1, 2, 3, 4, 5, 6, 7], [7, 8])])
def spec_l5DrawAny.B10 : List Nat := [0, 1, 0, 4, 0, 28, 60, 127, 255, 511]
theorem spec_l5DrawAny.tab10 : rtab .any (opsOf Try.f84 10) = spec_l5DrawAny.T10 := by kernel_rfl
theorem spec_l5DrawAny.bits10 : waitsOk spec_l5DrawAny.T10.2 spec_l5DrawAny.B10 = true := by kernel_rfl
set_option maxHeartbeats 8000000 in
set_option maxRecDepth 100000 in
theorem spec_l5DrawAny.calls (k : Nat) (g : Nat) (ak : List Int) (b6 : Int) (b7 : Int) (r1 : Int) (r2 : List (List (S98))) (r3 : Int) (r4 : Int) (w0 w : World) (hI : IsS118 w0 w g ak b6 b7) (hB : Below w0.heap.size w0 w) (h : spec_l5DrawAny.f k ak b6 b7 = some (r1, r2, r3, r4)) :
  Calls Try.prog 84 #[.pointer (some ⟨g, 0, none⟩)] w fun e w' => ∃ v1_ : Value, e = .returned (.agg #[.int .i64 r1, v1_]) ∧ Kd.N (Kd.slice 98 k98) 99 w' w.heap.size (fun k_ => (w.heap.size ≤ k_)) v1_ r2 ∧ IsS118 w0 w' g ak r3 r4 ∧ Below w0.heap.size w0 w' ∧ KeepBut w w' g none := by
 (
have e9 := Try.underlying58
have eb := Try.underlying96
have ac := am hI
have HK := am (KeepBut.refl w g none)
have HL := am hB.size
clear hI
have b9 := am hB.size
have HB := am hB
clear hB
have H := h
unfold spec_l5DrawAny.f at H
clear h
obtain ⟨⟨ai, aj, aK, aM⟩, A2, H⟩ := bd H
(try dsimp only at H)
obtain ⟨⟨cZ, aN, aQ⟩, A3, H⟩ := bd H
(try dsimp only at H)
by_cases c4 : cZ = true
·(
subst c4
rw [if_pos rfl] at H
obtain ⟨⟨ap, aH, aI⟩, A5, H⟩ := bd H
(try dsimp only at H)
refine em_ (p := ap = 0) (fun c6 => ?dj) (fun c6 => ?di)
case' dj => (
rw [if_pos c6] at H
have bX : (ap == 0) = true := beq_iff_eq.mpr c6
have bY : (ap != 0) = false := bne_eq_false_iff_eq.mpr c6
clear c6
obtain ⟨aD, bb⟩ : ∃ y_ : List Int, y_ = (([0, wrap64 (ai + 1), 61] : List Int)) := ⟨_, rfl⟩
replace H : ((spec_l1Below.f ak aH aI 3).bind fun aX => (if 0 ≤ aX.1 then (if aX.1 < (aD.length : Int) then (some (rd aD aX.1, aj, aX.2.1, aX.2.2)) else (none)) else (none))) = some (r1, r2, r3, r4) := by first | (rw [bb]; with_reducible exact H) | (rw [bb]; exact H) | exact H
have aR := am bb
clear bb
obtain ⟨⟨aB, bD, bE⟩, A7, H⟩ := bd H
(try dsimp only at H)
refine em_ (p := 0 ≤ aB) (fun c8 => ?dd) (fun c8 => ?dc)
case' dd => (
rw [if_pos c8] at H
have dS : decide (0 ≤ aB) = true := decide_eq_true c8
clear c8
refine em_ (p := aB < (aD.length : Int)) (fun c9 => ?db) (fun c9 => ?da)
case' db => (
rw [if_pos c9] at H
have dU : decide (aB < (aD.length : Int)) = true := decide_eq_true c9
clear c9
simp only [Option.some.injEq, Prod.mk.injEq] at H
obtain ⟨rfl, rfl, rfl, rfl⟩ := H
have ed := trivial
)
case da => (
rw [if_neg c9] at H
exact absurd H (by simp)
)
)
case dc => (
rw [if_neg c8] at H
exact absurd H (by simp)
)
)
case di => (
rw [if_neg c6] at H
have bX : (ap == 0) = false := beq_eq_false_iff_ne.mpr c6
have bY : (ap != 0) = true := bne_iff_ne.mpr c6
by_cases ba : ap = 1
·(
rw [if_pos ba] at H
have bO : (ap == 1) = true := beq_iff_eq.mpr ba
have bP : (ap != 1) = false := bne_eq_false_iff_eq.mpr ba
clear ba
obtain ⟨⟨aC, bF, bG⟩, d7, H⟩ := bd H
(try dsimp only at H)
refine em_ (p := 0 < (aj.length : Int)) (fun bB => ?df) (fun bB => ?de)
case' df => (
rw [if_pos bB] at H
have dG : decide (0 < (aj.length : Int)) = true := decide_eq_true bB
have dH : decide (0 < aj.length) = true := decide_eq_true (by omega)
clear bB
obtain ⟨cm, bc⟩ : ∃ y_ : List (List (S98)), y_ = (aj.set (0 : Int).toNat aC) := ⟨_, rfl⟩
replace H : (some (ai, cm, bF, bG)) = some (r1, r2, r3, r4) := by first | (rw [bc]; with_reducible exact H) | (rw [bc]; exact H) | exact H
have co := am bc
clear bc
simp only [Option.some.injEq, Prod.mk.injEq] at H
obtain ⟨rfl, rfl, rfl, rfl⟩ := H
have ee := trivial
)
case de => (
rw [if_neg bB] at H
exact absurd H (by simp)
)
all_goals (
go_enter Try.func84, Try.ntmps84
try go_wp2_with (first | (refine bx 2 #[.int .i64 0, .slice none 0 0] 58 ?_; intro af hg eV hbox hb; replace HB := bsi HB hb; have a8 := am (hbox); have bq := am (gk hg HK); have bo := am ((Nat.le_trans b9.out (gk hg HK) : w0.heap.size ≤ af)); replace HK := kb HK hb; have az := am (il118 hg ac); have aq := ns az; replace ac := am (IsS118.below (ri118 ac) hb); clear hb hbox hg) | ((with_reducible refine cg 114 rfl ?_); refine gl_ (some 5) Try.func114 #[.pointer (some ⟨g, 0, none⟩)] ?_; (with_reducible refine (spec_l5Draw.calls k g ak b6 b7 ai aj aK aM w0 _ ?side1 ?side2 A2.out).mono ?_); (case side1 => exact ri118 ac); (case side2 => exact rbi HB); rintro e eW ⟨bJ, rfl, ay, hi, hb, hk⟩; refine ⟨_, rfl, ?_⟩; have aa := am (Kd.N_lower (Kd.N_mono (ok' := fun k_ => (w.heap.size ≤ k_) ∧ k_ ≠ af ∧ k_ ≠ g) (Kd.S_N (Kd.S_bound ay)) (fun k_ hk_ => ⟨(Nat.le_trans (ks HK) hk_.2.1), (Kd.freshB (rk a8) k_ hk_.2.1), (IsS118.fresh (ri118 ac) k_ hk_.2.1)⟩)) (ks HK)); replace a8 := kh a8 hk; replace HK := kt HK hk; replace HB := am (hb); replace ac := am (hi); (try clear hb); (try clear aJ); (try clear hk); (try clear hi); (try clear ay)) | (refine bx 3 #[.int .i64 0, .slice none 0 0] 58 ?_; intro ae hg eX hbox hb; replace aa := am (Kd.N_below (Kd.N_elderB (qN_ aa) ae (Nat.le_of_eq hg.symm)) hb); replace HB := bsi HB hb; have a9 := am (hbox); have br := am (gk hg HK); have bp := am ((Nat.le_trans b9.out (gk hg HK) : w0.heap.size ≤ ae)); replace HK := kb HK hb; have ao := am (nl hg (rk a8)); have al := ns ao; replace a8 := kk a8 hb; have aA := am (il118 hg ac); have au := ns aA; replace ac := am (IsS118.below (ri118 ac) hb); clear hb hbox hg; have ei := nN al; have ej := nN au; have eG := z2 a9; obtain ⟨cB, aZ, cQ⟩ := Kd.N_slice aa.out; subst cQ) | ((with_reducible refine cg 51 rfl ?_); refine gl_ (some 7) Try.func51 #[.pointer (some ⟨g, 0, none⟩), .int .i64 12] ?_; (with_reducible refine (spec_l1Once.calls g ak aK aM 12 true aN aQ w0 _ ?side1 ?side2 A3.out).mono ?_); (case side1 => exact ri118 ac); (case side2 => exact rbi HB); rintro e eY ⟨rfl, hi, hb, hk⟩; refine ⟨_, rfl, ?_⟩; replace a8 := kh a8 hk; replace aa := am (Kd.N_mono (Kd.N_keep (Kd.N_mono (ok := fun k_ => ((((w.heap.size ≤ k_)) ∧ (k_ ≠ af ∧ k_ ≠ g)) ∧ k_ ≠ ae)) (rN_ aa) (fun k_ hk_ => (⟨hk_, hk_.1.2.2⟩ : _ ∧ k_ ≠ g))) hk (fun _ h => h.2)) (fun _ h => h.1)); replace a9 := kh a9 hk; replace HK := kt HK hk; replace HB := am (hb); replace ac := am (hi); (try clear hb); (try clear aJ); (try clear hk); (try clear hi)) | ((with_reducible refine cg 52 rfl ?_); refine gl_ (some 9) Try.func52 #[.pointer (some ⟨g, 0, none⟩), .int .i64 3] ?_; (with_reducible refine (spec_l1Below.calls g ak aN aQ 3 ap aH aI w0 _ ?side1 ?side2 A5.out).mono ?_); (case side1 => exact ri118 ac); (case side2 => exact rbi HB); rintro e dD ⟨rfl, hi, hb, hk⟩; refine ⟨_, rfl, ?_⟩; replace a8 := kh a8 hk; replace aa := am (Kd.N_mono (Kd.N_keep (Kd.N_mono (ok := fun k_ => ((((w.heap.size ≤ k_)) ∧ (k_ ≠ af ∧ k_ ≠ g)) ∧ k_ ≠ ae)) (qN_ aa) (fun k_ hk_ => (⟨hk_, hk_.1.2.2⟩ : _ ∧ k_ ≠ g))) hk (fun _ h => h.2)) (fun _ h => h.1)); replace a9 := kh a9 hk; replace HK := kt HK hk; replace HB := am (hb); replace ac := am (hi); (try clear hb); (try clear aJ); (try clear hk); (try clear hi)))
replace aa := am (Kd.N_drew aa.out)
replace a8 := am (blk_drew a8.out)
replace a9 := am (blk_drew a9.out)
replace ac := am (IsS118.drew ac.out)
replace HK := am (keep_drew HK.out)
replace HB := am (below_drew1 HB.out)
refine start_ (n := 6) (S := fun w' => w'.cell? ⟨ae, 0, none⟩ = some (.int .i64 ai) ∧ w'.cell? ⟨ae, 1, none⟩ = some (.slice cB aj.length aZ)) (ds := [5]) (bm 6 0) (by kernel_rfl) rfl rfl (bc2 a9) (fun hHeld => ?_)
generalize dD.drew = eZ at aa a8 a9 ac HK HB hHeld ⊢
refine pure_ (i := 0) (N := some 23) (v := ?_) (a' := ?_) (bm 6 1) rfl rfl (by kernel_rfl) (fun _ _ _ h => h) (Or.inl ⟨by rfl, ?_⟩) ?_ ?_
rotate_left
·(
intro w'
go_simp
with_reducible rfl
)
rotate_left
·(
simp only [Act.put, List.setIfInBounds_toArray, List.set_cons_zero, List.set_cons_succ, i64_w, i32_w]
rfl
)
refine pure_ (i := 2) (N := some 25) (v := ?_) (a' := ?_) (bm 6 5) rfl rfl (by kernel_rfl) (fun _ _ _ h => h) (Or.inl ⟨by rfl, ?_⟩) ?_ ?_
rotate_left
·(
intro w'
go_simp
with_reducible rfl
)
rotate_left
·(
simp only [Act.put, List.setIfInBounds_toArray, List.set_cons_zero, List.set_cons_succ, i64_w, i32_w]
rfl
)
refine take_ (i := 1) (N := some 24) (v := ?_) (a' := ?_) (bm 6 7) rfl rfl (by kernel_rfl) (fun _ _ _ h => h) (Or.inl ⟨by rfl, ?_⟩) hHeld ?_ ?_
rotate_left
·(
rintro w' ⟨s0, s1⟩
go_simp
with_reducible rfl
)
rotate_left
·(
simp only [Act.put, List.setIfInBounds_toArray, List.set_cons_zero, List.set_cons_succ, i64_w, i32_w]
rfl
)
refine one_ (i := 3) (N := some 26) (bm 6 15) rfl rfl (by kernel_rfl) (by decide) (fun K hK => ?_)
refine gs Try.func115 #[.pointer (some ⟨g, 0, none⟩)] ?_
with_reducible refine (spec_l4DrawAny.calls k g ak aH aI aC bF bG w0 _ ?side1 ?side2 d7.out).mono ?_
(case side1 => exact ri118 ac)
(case side2 => exact rbi HB)
rintro e bn ⟨ez, rfl, ay, hi, hb, hk⟩
refine ⟨_, rfl, ?_⟩
replace a8 := kh a8 hk
replace aa := am (Kd.N_mono (Kd.N_told (Kd.N_oldK (Kd.N_mono (ok := fun k_ => ((((w.heap.size ≤ k_)) ∧ (k_ ≠ af ∧ k_ ≠ g)) ∧ k_ ≠ ae)) (qN_ aa) (fun k_ hk_ => (⟨hk_, hk_.1.2.2⟩ : _ ∧ k_ ≠ g))) hk) (Kd.R_base ay)) (fun _ h_ => h_.1))
replace a9 := kh a9 hk
have bL := am (Kd.R_lower (Kd.R_newM (M := fun k_ => (w.heap.size ≤ k_)) ay (ks HK) (fun k_ h_ => h_)) (ks HK))
replace HK := kt HK hk
replace HB := am (hb)
replace ac := am (hi)
(try clear hb)
(try clear hk)
(try clear hi)
(try clear ay)
have cj : 0 ≤ (0 : Int) := (by omega)
have ck : (0 : Int) < ((aj.length : Int) : Int) := dt_
have ey : (0 < aj.length) = True := eq_true (by omega)
obtain ⟨ax, dY, cb, ch, gl33, cl33, bW⟩ := Kd.N_form aa.out (by omega)
(first | cases cb | (injection cb with ea_ en_ ec_; (first | subst ea_ | (injection ea_ with ea_; subst ea_)); subst ec_; clear en_))
have dQ := am ch
have dR := am bW
clear ch gl33 bW
obtain ⟨dV, cy, hM33, bQ, bT⟩ := Kd.N_elem aa.out [] (0 : Int) cj ck
obtain ⟨dt, dv, rfl, dy, dq⟩ := Kd.FK_slice_open hM33
have bl := bQ 0 _ rfl
have bj := bT 0
(try simp only [show ((Kd.slice 98 k98)).sz = 1 from rfl, Nat.mul_one, Nat.add_zero] at bl bj)
clear cy bQ bT hM33
(try rw [show ((0 : Int)).toNat = 0 from rfl] at bl)
(try simp only [Nat.reduceMul, Nat.zero_mul, Nat.zero_add, Nat.reduceAdd] at bl)
(try rw [show ((0 : Int)).toNat = 0 from rfl] at bj)
(try simp only [Nat.reduceMul, Nat.zero_mul, Nat.zero_add, Nat.reduceAdd] at bj)
replace cj := eq_true cj
replace ck := eq_true ck
have cF := am (show g ≠ ax from by have h_ := IsS118.own_neN ac.out aa.out (by decide); intro e_; exact h_ (by rw [e_]; rfl))
obtain ⟨aE, aG, cw⟩ := Kd.R_slice bL.out
subst cw
have bv := am (show Kd.N (Kd.slice 98 k98) 99 _ w.heap.size (fun k_ => (w.heap.size ≤ k_) ∧ some k_ ≠ (.slice aE aC.length aG : Value).ownBlock ∧ k_ ≠ af ∧ k_ ≠ ae ∧ k_ ≠ g) (.slice (some ⟨ax, 0, none⟩) aj.length aZ) aj from (Kd.N_mono (aa.out) (fun k_ hk => ⟨hk.1.1.1, ⟨hk.2, ⟨hk.1.1.2.1, ⟨hk.1.2, hk.1.1.2.2⟩⟩⟩⟩)))
replace bv := am (show Kd.N (Kd.slice 98 k98) 99 _ w.heap.size (fun k_ => (w.heap.size ≤ k_) ∧ k_ ≠ af ∧ k_ ≠ ae ∧ k_ ≠ g) (.slice (some ⟨ax, 0, none⟩) aj.length aZ) aj from Kd.N_mono bv.out (fun k_ hk => ⟨hk.1, ⟨hk.2.2.1, ⟨hk.2.2.2.1, hk.2.2.2.2⟩⟩⟩))
obtain ⟨dW, bS, hM45, bR, cz⟩ := Kd.N_elem bv.out [] (0 : Int) (by omega) (by have h_ : (0 : Int) < ((aj.length : Int) : Int) := dt_; first | exact h_ | (have e_ := (Kd.N_reads' aa.out).1; omega) | simpa using h_)
obtain ⟨du, dx, rfl, dz, dr⟩ := Kd.FK_slice_open hM45
have bu := (Kd.N_seg bv.out (0 : Int) (by omega) (by have h_ : (0 : Int) < ((aj.length : Int) : Int) := dt_; first | exact h_ | (have e_ := (Kd.N_reads' aa.out).1; omega) | simpa using h_) (seg := [.slice aE aC.length aG]) (j := 0) bS bR (show 1 ≤ 1 from by decide) (x' := aC) (fkR (Kd.R_mono (ok' := (fun k_ => ((fun k_ => (w.heap.size ≤ k_) ∧ k_ ≠ af ∧ k_ ≠ ae ∧ k_ ≠ g)) k_ ∧ k_ ≠ ax)) (IsS118.apart ac.out (Kd.R_types (Kd.R_types (Kd.R_apart' (bL.out) (Kd.N_typed aa.out) (by decide)) a8.out (by decide)) a9.out (by decide)) (by decide)) (fun k_ hk => ⟨⟨hk.1.1.1.1.1, ⟨hk.1.1.2, ⟨hk.1.2, hk.2⟩⟩⟩, fun e_ => (hk.1.1.1.2) (by rw [e_]; rfl)⟩))) (fun _ hk => hk)).1
(try simp only [show ((Kd.slice 98 k98)).sz = 1 from rfl, Nat.mul_one, Nat.add_zero] at bu)
rw [← co.out] at bu
have cG := am bu
clear bS bR cz hM45 bu
refine hK.out _ _ (bc2 a9) (fun hHeld => ?_)
clear hK K
refine norm_ (a' := _) (show Act.put _ (some 26) _ = _ from na) ?_
refine pure_ (i := 4) (N := some 27) (v := ?_) (a' := ?_) (bm 6 31) rfl rfl (by kernel_rfl) (fun _ _ _ h => h) (Or.inl ⟨by rfl, ?_⟩) ?_ ?_
rotate_left
·(
intro w'
go_simp
with_reducible rfl
)
rotate_left
·(
simp only [Act.put, List.setIfInBounds_toArray, List.set_cons_zero, List.set_cons_succ, i64_w, i32_w]
rfl
)
refine last_ (i := 5) (N := none) (bm 6 63) rfl rfl (by kernel_rfl) (by decide) (fun K hK => ?_)
refine skip_ (w1 := ?_) (by rfl) rfl ?_ ?_
rotate_left
·(
go_simp
rfl
)
refine hK.out _ _ ?_
clear hK K
refine done_ (by kernel_rfl) ?_
have n0_ : Aside0 (Kd.N (Kd.slice 98 k98) 99 (bn.setCell ⟨ax, 0, none⟩ (.slice aE aC.length aG)) w.heap.size (fun k_ => (w.heap.size ≤ k_) ∧ k_ ≠ af ∧ k_ ≠ g ∧ k_ ≠ ae) (.slice (some ⟨ax, 0, none⟩) aj.length aZ) cm) := ⟨qN_ cG⟩
have n1_ : Aside0 ((bn.setCell ⟨ax, 0, none⟩ (.slice aE aC.length aG)).heap[af]? = some (.cells #[.int .i64 0, .slice none 0 0] 58 (0, 0))) := ⟨rkw (aw aa) a8⟩
have n2_ : Aside0 ((bn.setCell ⟨ax, 0, none⟩ (.slice aE aC.length aG)).heap[ae]? = some (.cells #[.int .i64 ai, .slice (some ⟨ax, 0, none⟩) aj.length aZ] 58 (0, 0))) := ⟨rkw (aw aa) a9⟩
have n3_ : Aside0 (IsS118 w0 (bn.setCell ⟨ax, 0, none⟩ (.slice aE aC.length aG)) g ak bF bG) := ⟨ri118 ac⟩
have n4_ : Aside0 (KeepBut w (bn.setCell ⟨ax, 0, none⟩ (.slice aE aC.length aG)) g none) := ⟨rkk HK⟩
have n5_ : Aside0 (Below w0.heap.size w0 (bn.setCell ⟨ax, 0, none⟩ (.slice aE aC.length aG))) := ⟨rbi HB⟩
(try clear aa)
(try clear a8)
(try clear a9)
(try clear ac)
(try clear HK)
(try clear HB)
generalize (bn.setCell ⟨ax, 0, none⟩ (.slice aE aC.length aG)) = f5 at n0_ n1_ n2_ n3_ n4_ n5_ ⊢
have aa := n0_
have a8 := n1_
have a9 := n2_
have ac := n3_
have HK := n4_
have HB := n5_
clear n0_ n1_ n2_ n3_ n4_ n5_
have eH := z2 a9
have ek := nN aq
have eI := z2 a8
try go_wp2
refine bodyPost_ret (results_cell_row rfl _ _ af 58 #[.int .i64 ai, .slice (some ⟨ax, 0, none⟩) aj.length aZ] (0, 0) _ rfl (rk a8) Try.underlying58 rfl (by kernel_rfl)) rfl ?_
exact ⟨_, ew, rN_ aa, ri118 ac, rbi HB, rkk HK⟩
)
)
·(
rw [if_neg ba] at H
have bO : (ap == 1) = false := beq_eq_false_iff_ne.mpr ba
have bP : (ap != 1) = true := bne_iff_ne.mpr ba
refine em_ (p := ap = 2) (fun aY => ?dh) (fun aY => ?dg)
case' dh => (
rw [if_pos aY] at H
have ct : (ap == 2) = true := beq_iff_eq.mpr aY
have cu : (ap != 2) = false := bne_eq_false_iff_eq.mpr aY
clear aY
have H' := am H
clear H
have cT := trivial
)
case' dg => (
rw [if_neg aY] at H
have ct : (ap == 2) = false := beq_eq_false_iff_ne.mpr aY
have cu : (ap != 2) = true := bne_iff_ne.mpr aY
simp only [Option.some.injEq, Prod.mk.injEq] at H
obtain ⟨rfl, rfl, rfl, rfl⟩ := H
have cU := trivial
)
all_goals (
go_enter Try.func84, Try.ntmps84
go_wp2_with (first | (refine bx 3 #[.int .i64 0, .slice none 0 0] 58 ?_; intro ae hg f8 hbox hb; replace aa := am (Kd.N_below (Kd.N_elderB (qN_ aa) ae (Nat.le_of_eq hg.symm)) hb); replace HB := bsi HB hb; have a9 := am (hbox); have br := am (gk hg HK); have bp := am ((Nat.le_trans b9.out (gk hg HK) : w0.heap.size ≤ ae)); replace HK := kb HK hb; have ao := am (nl hg (rk a8)); have al := ns ao; replace a8 := kk a8 hb; have aA := am (il118 hg ac); have au := ns aA; replace ac := am (IsS118.below (ri118 ac) hb); clear hb hbox hg; have el := nN al; have eo := nN au; have cn := z2 a9; obtain ⟨bV, ca, cR⟩ := Kd.N_slice aa.out; subst cR) | ((with_reducible refine cg 51 rfl ?_); refine gl_ (some 7) Try.func51 #[.pointer (some ⟨g, 0, none⟩), .int .i64 12] ?_; (with_reducible refine (spec_l1Once.calls g ak aK aM 12 true aN aQ w0 _ ?side1 ?side2 A3.out).mono ?_); (case side1 => exact ri118 ac); (case side2 => exact rbi HB); rintro e f9 ⟨rfl, hi, hb, hk⟩; refine ⟨_, rfl, ?_⟩; replace a8 := kh a8 hk; replace aa := am (Kd.N_mono (Kd.N_keep (Kd.N_mono (ok := fun k_ => ((((w.heap.size ≤ k_)) ∧ (k_ ≠ af ∧ k_ ≠ g)) ∧ k_ ≠ ae)) (rN_ aa) (fun k_ hk_ => (⟨hk_, hk_.1.2.2⟩ : _ ∧ k_ ≠ g))) hk (fun _ h => h.2)) (fun _ h => h.1)); replace a9 := kh a9 hk; replace HK := kt HK hk; replace HB := am (hb); replace ac := am (hi); (try clear hb); (try clear aJ); (try clear hk); (try clear hi)) | ((with_reducible refine cg 52 rfl ?_); refine gl_ (some 9) Try.func52 #[.pointer (some ⟨g, 0, none⟩), .int .i64 3] ?_; (with_reducible refine (spec_l1Below.calls g ak aN aQ 3 ap aH aI w0 _ ?side1 ?side2 A5.out).mono ?_); (case side1 => exact ri118 ac); (case side2 => exact rbi HB); rintro e fe ⟨rfl, hi, hb, hk⟩; refine ⟨_, rfl, ?_⟩; replace a8 := kh a8 hk; replace aa := am (Kd.N_mono (Kd.N_keep (Kd.N_mono (ok := fun k_ => ((((w.heap.size ≤ k_)) ∧ (k_ ≠ af ∧ k_ ≠ g)) ∧ k_ ≠ ae)) (qN_ aa) (fun k_ hk_ => (⟨hk_, hk_.1.2.2⟩ : _ ∧ k_ ≠ g))) hk (fun _ h => h.2)) (fun _ h => h.1)); replace a9 := kh a9 hk; replace HK := kt HK hk; replace HB := am (hb); replace ac := am (hi); (try clear hb); (try clear aJ); (try clear hk); (try clear hi); have eL := z2 a9; have eu := nN aq; have eM := z2 a8) | ((with_reducible refine cg 114 rfl ?_); refine gl_ (some 5) Try.func114 #[.pointer (some ⟨g, 0, none⟩)] ?_; (with_reducible refine (spec_l5Draw.calls k g ak b6 b7 ai aj aK aM w0 _ ?side1 ?side2 A2.out).mono ?_); (case side1 => exact ri118 ac); (case side2 => exact rbi HB); rintro e f7 ⟨bJ, rfl, ay, hi, hb, hk⟩; refine ⟨_, rfl, ?_⟩; have aa := am (Kd.N_lower (Kd.N_mono (ok' := fun k_ => (w.heap.size ≤ k_) ∧ k_ ≠ af ∧ k_ ≠ g) (Kd.S_N (Kd.S_bound ay)) (fun k_ hk_ => ⟨(Nat.le_trans (ks HK) hk_.2.1), (Kd.freshB (rk a8) k_ hk_.2.1), (IsS118.fresh (ri118 ac) k_ hk_.2.1)⟩)) (ks HK)); replace a8 := kh a8 hk; replace HK := kt HK hk; replace HB := am (hb); replace ac := am (hi); (try clear hb); (try clear aJ); (try clear hk); (try clear hi); (try clear ay)) | (refine bx 2 #[.int .i64 0, .slice none 0 0] 58 ?_; intro af hg f6 hbox hb; replace HB := bsi HB hb; have a8 := am (hbox); have bq := am (gk hg HK); have bo := am ((Nat.le_trans b9.out (gk hg HK) : w0.heap.size ≤ af)); replace HK := kb HK hb; have az := am (il118 hg ac); have aq := ns az; replace ac := am (IsS118.below (ri118 ac) hb); clear hb hbox hg) | ((with_reducible refine cg 52 rfl ?_); refine gl_ (some 9) Try.func52 #[.pointer (some ⟨g, 0, none⟩), .int .i64 3] ?_; (with_reducible refine (spec_l1Below.calls g ak aN aQ 3 ap aH aI w0 _ ?side1 ?side2 A5.out).mono ?_); (case side1 => exact ri118 ac); (case side2 => exact rbi HB); rintro e fa ⟨rfl, hi, hb, hk⟩; refine ⟨_, rfl, ?_⟩; replace a8 := kh a8 hk; replace aa := am (Kd.N_mono (Kd.N_keep (Kd.N_mono (ok := fun k_ => ((((w.heap.size ≤ k_)) ∧ (k_ ≠ af ∧ k_ ≠ g)) ∧ k_ ≠ ae)) (qN_ aa) (fun k_ hk_ => (⟨hk_, hk_.1.2.2⟩ : _ ∧ k_ ≠ g))) hk (fun _ h => h.2)) (fun _ h => h.1)); replace a9 := kh a9 hk; replace HK := kt HK hk; replace HB := am (hb); replace ac := am (hi); (try clear hb); (try clear aJ); (try clear hk); (try clear hi)))
first
| (
have q_ := cT
go_loopg [] k (fun kq w' => ∃ (aT : Int) (aU : Int) (ah : List (List (S98))) (b8 : Value), Aside0 (spec_l5DrawAny.l0 kq ak aT aU ai ah = some (r1, r2, r3, r4)) ∧ Aside0 (kq ≤ k) ∧ Aside0 (Kd.N (Kd.slice 98 k98) 99 w' w.heap.size (fun k_ => (w.heap.size ≤ k_) ∧ k_ ≠ af ∧ k_ ≠ ae ∧ k_ ≠ g) b8 ah) ∧ Aside0 (w'.heap[af]? = some (.cells #[.int .i64 0, (.slice none 0 0)] 58 (0, 0))) ∧ Aside0 (w'.heap[ae]? = some (.cells #[.int .i64 ai, b8] 58 (0, 0))) ∧ Aside0 (IsS118 w0 w' g ak aT aU) ∧ Aside0 (KeepBut w w' g none) ∧ Aside0 (Below w0.heap.size w0 w'))
case atStart => exact ⟨(aH), (aI), (aj), (.slice bV aj.length ca), H', ⟨Nat.le_refl _⟩, ⟨qN_ aa⟩, ⟨rk a8⟩, ⟨rk a9⟩, ⟨ri118 ac⟩, ⟨rkk HK⟩, ⟨rbi HB⟩⟩
case round => (
clear H'
try clear c4
try clear c6
try clear bX
try clear bY
try clear ba
try clear bO
try clear bP
try clear aY
try clear cn
try clear cn
obtain ⟨aT, aU, ah, b8, HA, cA, ag, a8, a9, ac, HK, HB⟩ := hrel
cases gk with
| zero => exact absurd HA.out (by simp [spec_l5DrawAny.l0])
| succ k1 => (
have H := HA.out
clear HA
simp only [spec_l5DrawAny.l0] at H
obtain ⟨⟨bz, bH, bI⟩, d8, H⟩ := bd H
(try dsimp only at H)
refine em_ (p := (ah.length : Int) < (wrap64 (30 + bz))) (fun bh => ?dp) (fun bh => ?dn)
case' dp => (
rw [if_pos bh] at H
have cv : decide ((ah.length : Int) < (wrap64 (30 + bz))) = true := decide_eq_true bh
clear bh
obtain ⟨bA, d9, H⟩ := bd H
(try dsimp only at H)
refine em_ (p := ah.length < 5864062014805) (fun bC => ?dm) (fun bC => ?dk)
case' dm => (
rw [if_pos bC] at H
have LMc63 := am bC
clear bC
obtain ⟨bK, bf⟩ : ∃ y_ : List (List (S98)), y_ = (ah ++ [bA]) := ⟨_, rfl⟩
replace H : (spec_l5DrawAny.l0 k1 ak bH bI ai bK) = some (r1, r2, r3, r4) := by first | (rw [bf]; with_reducible exact H) | (rw [bf]; exact H) | exact H
have cp := am bf
clear bf
have H' := am H
clear H
have cV := trivial
)
case dk => (
rw [if_neg bC] at H
exact absurd H (by simp)
)
)
case' dn => (
rw [if_neg bh] at H
have cv : decide ((ah.length : Int) < (wrap64 (30 + bz))) = false := decide_eq_false bh
clear bh
simp only [Option.some.injEq, Prod.mk.injEq] at H
obtain ⟨rfl, rfl, rfl, rfl⟩ := H
have cW := trivial
)
all_goals (
try go_wp2
replace ag := am (Kd.N_drew ag.out)
replace a8 := am (blk_drew a8.out)
replace a9 := am (blk_drew a9.out)
replace ac := am (IsS118.drew ac.out)
replace HK := am (keep_drew HK.out)
replace HB := am (below_drew1 HB.out)
obtain ⟨aV, aW, cd⟩ := Kd.N_slice ag.out
(first | subst cd | (injection cd with f1_ f2_ f3_; have f4_ := f1_.symm; have f5_ := f3_.symm; clear f1_ f2_ f3_; subst f4_; subst f5_))
refine start_ (n := 7) (S := fun w' => w'.cell? ⟨ae, 0, none⟩ = some (.int .i64 ai) ∧ w'.cell? ⟨ae, 1, none⟩ = some (.slice aV ah.length aW)) (ds := []) (bm 7 0) (by kernel_rfl) rfl rfl (bc2 a9) (fun hHeld => ?_)
generalize wr.drew = fb at ag a8 a9 ac HK HB hHeld ⊢
refine pure_ (i := 0) (N := some 30) (v := ?_) (a' := ?_) (bm 7 1) rfl rfl (by kernel_rfl) (fun _ _ _ h => h) (Or.inl ⟨by rfl, ?_⟩) ?_ ?_
rotate_left
·(
intro w'
go_simp
with_reducible rfl
)
rotate_left
·(
simp only [Act.put, List.setIfInBounds_toArray, List.set_cons_zero, List.set_cons_succ, i64_w, i32_w]
rfl
)
refine pure_ (i := 3) (N := some 33) (v := ?_) (a' := ?_) (bm 7 9) rfl rfl (by kernel_rfl) (fun _ _ _ h => h) (Or.inl ⟨by rfl, ?_⟩) ?_ ?_
rotate_left
·(
intro w'
go_simp
with_reducible rfl
)
rotate_left
·(
simp only [Act.put, List.setIfInBounds_toArray, List.set_cons_zero, List.set_cons_succ, i64_w, i32_w]
rfl
)
refine take_ (i := 1) (N := some 31) (v := ?_) (a' := ?_) (bm 7 11) rfl rfl (by kernel_rfl) (fun _ _ _ h => h) (Or.inl ⟨by rfl, ?_⟩) hHeld ?_ ?_
rotate_left
·(
rintro w' ⟨s0, s1⟩
go_simp
with_reducible rfl
)
rotate_left
·(
simp only [Act.put, List.setIfInBounds_toArray, List.set_cons_zero, List.set_cons_succ, i64_w, i32_w]
rfl
)
refine pure_ (i := 2) (N := some 32) (v := ?_) (a' := ?_) (bm 7 15) rfl rfl (by kernel_rfl) (fun _ _ _ h => h) (Or.inl ⟨by rfl, ?_⟩) ?_ ?_
rotate_left
·(
intro w'
go_simp
with_reducible rfl
)
rotate_left
·(
simp only [Act.put, List.setIfInBounds_toArray, List.set_cons_zero, List.set_cons_succ, i64_w, i32_w]
rfl
)
refine one_ (i := 4) (N := some 34) (bm 7 31) rfl rfl (by kernel_rfl) (by decide) (fun K hK => ?_)
refine gs Try.func52 #[.pointer (some ⟨g, 0, none⟩), .int .i64 2] ?_
with_reducible refine (spec_l1Below.calls g ak aT aU 2 bz bH bI w0 _ ?side1 ?side2 d8.out).mono ?_
(case side1 => exact ri118 ac)
(case side2 => exact rbi HB)
rintro e dE ⟨rfl, hi, hb, hk⟩
refine ⟨_, rfl, ?_⟩
replace ag := am (Kd.N_mono (Kd.N_keep (Kd.N_mono (ok := fun k_ => (((w.heap.size ≤ k_)) ∧ (k_ ≠ af ∧ (k_ ≠ ae ∧ k_ ≠ g)))) (qN_ ag) (fun k_ hk_ => (⟨hk_, hk_.2.2.2⟩ : _ ∧ k_ ≠ g))) hk (fun _ h => h.2)) (fun _ h => h.1))
replace a8 := kh a8 hk
replace a9 := kh a9 hk
replace HK := kt HK hk
replace HB := am (hb)
replace ac := am (hi)
(try clear hb)
(try clear hk)
(try clear hi)
refine hK.out _ _ (bc2 a9) (fun hHeld => ?_)
clear hK K
refine norm_ (a' := _) (show Act.put _ (some 34) _ = _ from na) ?_
refine pure_ (i := 5) (N := some 35) (v := ?_) (a' := ?_) (bm 7 63) rfl rfl (by kernel_rfl) (fun _ _ _ h => h) (Or.inl ⟨by rfl, ?_⟩) ?_ ?_
rotate_left
·(
intro w'
go_simp
with_reducible rfl
)
rotate_left
·(
simp only [Act.put, List.setIfInBounds_toArray, List.set_cons_zero, List.set_cons_succ, i64_w, i32_w]
rfl
)
refine pure_ (i := 6) (N := some 36) (v := ?_) (a' := ?_) (bm 7 127) rfl rfl (by kernel_rfl) (fun _ _ _ h => h) (Or.inl ⟨by rfl, ?_⟩) ?_ ?_
rotate_left
·(
intro w'
go_simp
with_reducible rfl
)
rotate_left
·(
simp only [Act.put, List.setIfInBounds_toArray, List.set_cons_zero, List.set_cons_succ, i64_w, i32_w]
rfl
)
refine done_ (by kernel_rfl) ?_
first
| (
have q_ := cV
try go_wp2
replace ag := am (Kd.N_drew ag.out)
replace a8 := am (blk_drew a8.out)
replace a9 := am (blk_drew a9.out)
replace ac := am (IsS118.drew ac.out)
replace HK := am (keep_drew HK.out)
replace HB := am (below_drew1 HB.out)
refine start_ (n := 10) (S := fun w' => w'.cell? ⟨ae, 0, none⟩ = some (.int .i64 ai) ∧ w'.cell? ⟨ae, 1, none⟩ = some (.slice aV ah.length aW)) (ds := [9]) (bm 10 0) (by kernel_rfl) rfl rfl (bc2 a9) (fun hHeld => ?_); refine with_tabW spec_l5DrawAny.tab10 spec_l5DrawAny.bits10 (fun HT_ HW_ => ?_)
generalize dE.drew = fc at ag a8 a9 ac HK HB hHeld ⊢
refine pu_ 0 37 (bm 10 1) HT_.out ?_
refine pu_ 2 39 (bm 10 5) HT_.out ?_
refine pu_ 4 41 (bm 10 21) HT_.out ?_
refine tk 1 38 (bm 10 23) HT_ HW_ hHeld ?_
refine tk 3 40 (bm 10 31) HT_ HW_ hHeld ?_
refine o1 5 42 (bm 10 63) HT_ (fun K hK => ?_)
refine gs Try.func100 #[.int .i64 ai, .agg #[.int .i64 0, .int .i64 0, .bool false, .bool false, .bool false]] ?_
with_reducible refine (spec_l4Row.calls k1 ai 0 0 false false false bA _ d9.out).mono ?_
rintro e fd ⟨eA, rfl, ay, hb⟩
refine ⟨_, rfl, ?_⟩
replace ag := am (Kd.N_elder' (qN_ ag) (Kd.R_base ay) hb)
have bt := am (Kd.R_lower (Kd.R_newM (M := fun k_ => (w.heap.size ≤ k_)) ay (ks HK) (fun k_ h_ => h_)) (ks HK))
replace a8 := kk a8 hb
replace a9 := kk a9 hb
replace HK := kb HK hb
replace HB := bsi HB hb
replace ac := am (IsS118.below (ri118 ac) hb)
(try clear hb)
(try clear ay)
obtain ⟨cC, cI, ce⟩ := Kd.R_slice bt.out
(first | subst ce | (injection ce with f1_ f2_ f3_; have f4_ := f1_.symm; have f5_ := f3_.symm; clear f1_ f2_ f3_; subst f4_; subst f5_))
refine hK.out _ _ (bc2 a9) (fun hHeld => ?_)
clear hK K
refine norm_ (a' := _) (show Act.put _ (some 42) _ = _ from na) ?_
refine o1 6 43 (bm 10 127) HT_ (fun K hK => ?_)
refine value_ (w1 := ?_) (v := ?_) (by rfl) rfl ?_ ?_
rotate_left 2
·(
go_simp
constructor
·rfl
·rfl
)
refine hK.out _ _ ⟨(blk_cell (blk_alloc a9.out _) 0).trans rfl, (blk_cell (blk_alloc a9.out _) 1).trans rfl⟩ (fun hHeld => ?_)
clear hK K
refine norm_ (a' := _) (show Act.put _ (some 43) _ = _ from na) ?_
refine o1 7 44 (bm 10 255) HT_ (fun K hK => ?_)
refine Kd.N_append_step (Kd.slice 98 k98) w.heap.size (by rfl) (.tmp 38) (.tmp 43) 56 99 (.slice none 0 0) 24 rfl Try.underlying56 info99 rfl (by decide) (by omega) (.slice aV ah.length aW) ah bA [.slice cC bA.length cI] (fun k_ => (w.heap.size ≤ k_) ∧ k_ ≠ af ∧ k_ ≠ ae ∧ k_ ≠ g) (fun k_ => ((fun k_ => (w.heap.size ≤ k_) ∧ k_ ≠ af ∧ k_ ≠ ae ∧ k_ ≠ g)) k_ ∧ some k_ ≠ (.slice aV ah.length aW : Value).ownBlock) rfl rfl ?aP (fun _ hk => hk) ?aF ?aO (Below.refl _ _) ?aS ?aL ?_
(case aP => exact (fkR (Kd.R_mono (ok' := (fun k_ => ((fun k_ => (w.heap.size ≤ k_) ∧ k_ ≠ af ∧ k_ ≠ ae ∧ k_ ≠ g)) k_ ∧ some k_ ≠ (.slice aV ah.length aW : Value).ownBlock)) (IsS118.apart ac.out (Kd.R_types (Kd.R_types (Kd.R_apart' (bt.out) (Kd.N_typed ag.out) (by decide)) a8.out (by decide)) a9.out (by decide)) (by decide)) (fun k_ hk => ⟨⟨hk.1.1.1.1.1, ⟨hk.1.1.2, ⟨hk.1.2, hk.2⟩⟩⟩, hk.1.1.1.2⟩))))
(case aF => exact (fun k_ hk => ⟨(Nat.le_trans (ks HK) hk), Kd.freshB (rk a8) k_ hk, Kd.freshB (rk a9) k_ hk, IsS118.fresh (ri118 ac) k_ hk⟩))
(case aO => exact (qN_ ag))
(case aS => exact (ks HK))
(case aL => have := LMc63.out; omega)
intro eB dF ho hb hg hat
rw [← cp.out] at ho
replace a8 := am (blk_grown (rk a8) hg (Kd.N_ne ag.out a8.out (by decide)))
replace a9 := am (blk_grown (rk a9) hg (Kd.N_ne ag.out a9.out (by decide)))
replace HB := am (below_weaken (rbi HB) HL.out hb)
replace ac := am (IsS118.grown (ri118 ac) hg (IsS118.own_neN ac.out ag.out (by decide)))
replace HK := am (KeepBut.trans (rkk HK) (KeepBut.of_grown hg g) (Kd.N_base2 ag.out))
have bM := am (ho)
clear ag bt
clear ho hb hg hat
obtain ⟨cD, cJ, cf⟩ := Kd.N_slice bM.out
(first | subst cf | (injection cf with f1_ f2_ f3_; have f4_ := f1_.symm; have f5_ := f3_.symm; clear f1_ f2_ f3_; subst f4_; subst f5_))
refine hK.out _ _ (bc2 a9) (fun hHeld => ?_)
clear hK K
refine norm_ (a' := _) (show Act.put _ (some 44) _ = _ from na) ?_
refine pu_ 8 45 (bm 10 511) HT_.out ?_
refine last_ (i := 9) (N := none) (bm 10 1023) rfl rfl (one_of HT_.out (by kernel_rfl)) (by decide) (fun K hK => ?_)
have e8 : dF.cell? ⟨ae, 1, none⟩ = some (.slice aV ah.length aW) := (blk_cell a9.out 1).trans rfl
have dJ := blk_frozen a9.out 1
have d6 := ao.out
have d4 := al.out
refine skip_ (w1 := ?_) (by rfl) rfl ?_ ?_
rotate_left
·(
go_simp
rfl
)
refine hK.out _ _ ?_
clear hK K
refine done_ (done_of HT_.out (by kernel_rfl)) ?_
try go_wp2
go_roundg k1
case measure => have := cA.out; omega
case rel => exact ⟨(bH), (bI), (bK), (.slice cD bK.length cJ), H', ⟨by have := cA.out; omega⟩, ⟨rN_ bM⟩, ⟨rk a8⟩, ⟨rk a9⟩, ⟨ri118 ac⟩, ⟨rkk HK⟩, ⟨rbi HB⟩⟩
)
| (
have q_ := cW
have ep := nN al
have er := nN au
have eJ := z2 a9
have es := nN aq
have eK := z2 a8
try go_wp2
refine bodyPost_ret (results_cell_row rfl _ _ af 58 #[.int .i64 ai, .slice aV ah.length aW] (0, 0) _ rfl (rk a8) Try.underlying58 rfl (by kernel_rfl)) rfl ?_
exact ⟨_, ew, rN_ ag, ri118 ac, rbi HB, rkk HK⟩
)
)
)
)
)
| (
have q_ := cU
refine bodyPost_ret (results_cell_row rfl _ _ af 58 #[.int .i64 ai, .slice bV aj.length ca] (0, 0) _ rfl (rk a8) Try.underlying58 rfl (by kernel_rfl)) rfl ?_
exact ⟨_, ew, rN_ aa, ri118 ac, rbi HB, rkk HK⟩
)
)
)
)
all_goals (
go_enter Try.func84, Try.ntmps84
try go_wp2_with (first | (refine bx 2 #[.int .i64 0, .slice none 0 0] 58 ?_; intro af hg eO hbox hb; replace HB := bsi HB hb; have a8 := am (hbox); have bq := am (gk hg HK); have bo := am ((Nat.le_trans b9.out (gk hg HK) : w0.heap.size ≤ af)); replace HK := kb HK hb; have az := am (il118 hg ac); have aq := ns az; replace ac := am (IsS118.below (ri118 ac) hb); clear hb hbox hg) | ((with_reducible refine cg 114 rfl ?_); refine gl_ (some 5) Try.func114 #[.pointer (some ⟨g, 0, none⟩)] ?_; (with_reducible refine (spec_l5Draw.calls k g ak b6 b7 ai aj aK aM w0 _ ?side1 ?side2 A2.out).mono ?_); (case side1 => exact ri118 ac); (case side2 => exact rbi HB); rintro e eP ⟨bJ, rfl, ay, hi, hb, hk⟩; refine ⟨_, rfl, ?_⟩; have aa := am (Kd.N_lower (Kd.N_mono (ok' := fun k_ => (w.heap.size ≤ k_) ∧ k_ ≠ af ∧ k_ ≠ g) (Kd.S_N (Kd.S_bound ay)) (fun k_ hk_ => ⟨(Nat.le_trans (ks HK) hk_.2.1), (Kd.freshB (rk a8) k_ hk_.2.1), (IsS118.fresh (ri118 ac) k_ hk_.2.1)⟩)) (ks HK)); replace a8 := kh a8 hk; replace HK := kt HK hk; replace HB := am (hb); replace ac := am (hi); (try clear hb); (try clear aJ); (try clear hk); (try clear hi); (try clear ay)) | (refine bx 3 #[.int .i64 0, .slice none 0 0] 58 ?_; intro ae hg eQ hbox hb; replace aa := am (Kd.N_below (Kd.N_elderB (qN_ aa) ae (Nat.le_of_eq hg.symm)) hb); replace HB := bsi HB hb; have a9 := am (hbox); have br := am (gk hg HK); have bp := am ((Nat.le_trans b9.out (gk hg HK) : w0.heap.size ≤ ae)); replace HK := kb HK hb; have ao := am (nl hg (rk a8)); have al := ns ao; replace a8 := kk a8 hb; have aA := am (il118 hg ac); have au := ns aA; replace ac := am (IsS118.below (ri118 ac) hb); clear hb hbox hg; have ef := nN al; have eg := nN au; have eD := z2 a9; obtain ⟨bg, bi, cM⟩ := Kd.N_slice aa.out; subst cM) | ((with_reducible refine cg 51 rfl ?_); refine gl_ (some 7) Try.func51 #[.pointer (some ⟨g, 0, none⟩), .int .i64 12] ?_; (with_reducible refine (spec_l1Once.calls g ak aK aM 12 true aN aQ w0 _ ?side1 ?side2 A3.out).mono ?_); (case side1 => exact ri118 ac); (case side2 => exact rbi HB); rintro e eR ⟨rfl, hi, hb, hk⟩; refine ⟨_, rfl, ?_⟩; replace a8 := kh a8 hk; replace aa := am (Kd.N_mono (Kd.N_keep (Kd.N_mono (ok := fun k_ => ((((w.heap.size ≤ k_)) ∧ (k_ ≠ af ∧ k_ ≠ g)) ∧ k_ ≠ ae)) (rN_ aa) (fun k_ hk_ => (⟨hk_, hk_.1.2.2⟩ : _ ∧ k_ ≠ g))) hk (fun _ h => h.2)) (fun _ h => h.1)); replace a9 := kh a9 hk; replace HK := kt HK hk; replace HB := am (hb); replace ac := am (hi); (try clear hb); (try clear aJ); (try clear hk); (try clear hi)) | ((with_reducible refine cg 52 rfl ?_); refine gl_ (some 9) Try.func52 #[.pointer (some ⟨g, 0, none⟩), .int .i64 3] ?_; (with_reducible refine (spec_l1Below.calls g ak aN aQ 3 ap aH aI w0 _ ?side1 ?side2 A5.out).mono ?_); (case side1 => exact ri118 ac); (case side2 => exact rbi HB); rintro e dA ⟨rfl, hi, hb, hk⟩; refine ⟨_, rfl, ?_⟩; replace a8 := kh a8 hk; replace aa := am (Kd.N_mono (Kd.N_keep (Kd.N_mono (ok := fun k_ => ((((w.heap.size ≤ k_)) ∧ (k_ ≠ af ∧ k_ ≠ g)) ∧ k_ ≠ ae)) (qN_ aa) (fun k_ hk_ => (⟨hk_, hk_.1.2.2⟩ : _ ∧ k_ ≠ g))) hk (fun _ h => h.2)) (fun _ h => h.1)); replace a9 := kh a9 hk; replace HK := kt HK hk; replace HB := am (hb); replace ac := am (hi); (try clear hb); (try clear aJ); (try clear hk); (try clear hi)))
have pi693 : (0 ≤ (aB : Int)) = True := eq_true dt_
have dL : (aB < (aD.length : Int)) = True := eq_true dt_
replace aa := am (Kd.N_drew aa.out)
replace a8 := am (blk_drew a8.out)
replace a9 := am (blk_drew a9.out)
replace ac := am (IsS118.drew ac.out)
replace HK := am (keep_drew HK.out)
replace HB := am (below_drew1 HB.out)
refine start_ (n := 10) (S := fun w' => w'.cell? ⟨ae, 0, none⟩ = some (.int .i64 ai) ∧ w'.cell? ⟨ae, 1, none⟩ = some (.slice bg aj.length bi)) (ds := [9]) (bm 10 0) (by kernel_rfl) rfl rfl (bc2 a9) (fun hHeld => ?_); refine with_tabW spec_l5DrawAny.tab5 spec_l5DrawAny.bits5 (fun HT_ HW_ => ?_)
generalize dA.drew = eS at aa a8 a9 ac HK HB hHeld ⊢
refine pu_ 0 12 (bm 10 1) HT_.out ?_
refine pu_ 4 16 (bm 10 17) HT_.out ?_
refine tk 1 13 (bm 10 19) HT_ HW_ hHeld ?_
refine pu_ 2 14 (bm 10 23) HT_.out ?_
refine join_ (σ := Value × Addr) 4 (bm 10 63) (fun s_ => [(15, s_.1), (17, .int .i64 aB)]) (fun s_ w' => (w'.cell? ⟨ae, 0, none⟩ = some (.int .i64 ai) ∧ w'.cell? ⟨ae, 1, none⟩ = some (.slice bg aj.length bi)) ∧ (Kd.N (Kd.slice 98 k98) 99 w' w.heap.size (fun k_ => (w.heap.size ≤ k_) ∧ some k_ ≠ (s_.1 : Value).ownBlock ∧ k_ ≠ g ∧ k_ ≠ af ∧ k_ ≠ ae) (.slice bg aj.length bi) aj) ∧ (Kd.R (Kd.int .i64) 2 w' w.heap.size (fun k_ => (w.heap.size ≤ k_)) s_.1 aD) ∧ (∃ c_, (s_.1 : Value) = .slice (some s_.2) aD.length c_) ∧ (w'.heap[af]? = some (.cells #[.int .i64 0, .slice none 0 0] 58 (0, 0))) ∧ (w'.heap[ae]? = some (.cells #[.int .i64 ai, .slice bg aj.length bi] 58 (0, 0))) ∧ (IsS118 w0 w' g ak bD bE) ∧ (KeepBut w w' g none) ∧ (Below w0.heap.size w0 w')) ?_ ?_
rotate_left
·(
intro hCont
refine o2 3 5 15 17 (bm 10 31) (bm 10 55) HT_ (fun K hK => ?_) (fun K hK => ?_)
·(
skip
refine Kd.R_lit_step (Kd.int .i64) _ 2 ?hg (N := 15) ?hd (xs := ([0, wrap64 (ai + 1), 61] : List Int)) (inner := [.int .i64 0, .int .i64 (wrap64 (ai + 1)), .int .i64 61]) (ok := fun _ => True) (okp := fun _ => True) ?hr ?hp (fun _ hk => hk) trivial (Below.refl _ _) (Nat.le_refl _) (by simp) ?_; (case hd => rfl); (case hg => rfl); (case hr => first | (go_simp; done) | (go_simp; rfl)); (case hp => exact (Reps.one (show Kd.M (Kd.int .i64) _ _ _ 0 [.int .i64 0] from rfl) (Reps.one (show Kd.M (Kd.int .i64) _ _ _ (wrap64 (ai + 1)) [.int .i64 (wrap64 (ai + 1))] from rfl) (Reps.one (show Kd.M (Kd.int .i64) _ _ _ 61 [.int .i64 61] from rfl) (Reps.none _ _)))))
intro cl dB b4 hb hg_ hnew_
clear hg_ hnew_
(first | rw [← aR.out] at b4 | (simp only [Int.reduceToNat] at b4; rw [← aR.out] at b4))
replace aa := am (Kd.N_elder' (qN_ aa) (Kd.R_base b4) hb)
have av := am (Kd.R_lower (Kd.R_newM (M := fun k_ => (w.heap.size ≤ k_)) b4 (ks HK) (fun k_ h_ => h_)) (ks HK))
replace a8 := kk a8 hb
replace a9 := kk a9 hb
replace HK := kb HK hb
replace HB := bsi HB hb
replace ac := am (IsS118.below (ri118 ac) hb)
clear hb b4
obtain ⟨dO, bZ, cN⟩ := Kd.R_slice av.out
subst cN
obtain ⟨bw, fo22, _⟩ := Kd.at_int (Kd.R_reads' av.out).2.2 0 (by decide) (by rw [aR.out]; simp)
cases fo22
refine hK.out _ _ (bc2 a9) (fun hHeld => ?_)
clear hK K
refine norm_ (a' := _) (show Act.put _ (some 15) _ = _ from na) ?_
refine o1 5 17 (bm 10 63) HT_ (fun K hK => ?_)
refine gs Try.func52 #[.pointer (some ⟨g, 0, none⟩), .int .i64 3] ?_
with_reducible refine (spec_l1Below.calls g ak aH aI 3 aB bD bE w0 _ ?side1 ?side2 A7.out).mono ?_
(case side1 => exact ri118 ac)
(case side2 => exact rbi HB)
rintro e eU ⟨rfl, hi, hb, hk⟩
refine ⟨_, rfl, ?_⟩
replace a8 := kh a8 hk
replace aa := am (Kd.N_mono (Kd.N_keep (Kd.N_mono (ok := fun k_ => (((((w.heap.size ≤ k_)) ∧ (k_ ≠ af ∧ k_ ≠ g)) ∧ k_ ≠ ae) ∧ some k_ ≠ (.slice (some bw) aD.length bZ : Value).ownBlock)) (qN_ aa) (fun k_ hk_ => (⟨hk_, hk_.1.1.2.2⟩ : _ ∧ k_ ≠ g))) hk (fun _ h => h.2)) (fun _ h => h.1))
replace a9 := kh a9 hk
replace av := am (Kd.R_mono (Kd.R_keep (IsS118.apart (show IsS118 w0 _ g ak aH aI from ri118 ac) (rr av) (by decide)) hk (fun _ h => h.2)) (fun _ h => h.1))
replace HK := kt HK hk
replace HB := am (hb)
replace ac := am (hi)
(try clear hb)
(try clear hk)
(try clear hi)
refine hK.out _ _ (bc2 a9) (fun hHeld => ?_)
clear hK K
refine norm_ (a' := _) (show Act.put _ (some 17) _ = _ from na) ?_
exact norm_ nz0 (hCont (.slice (some bw) aD.length bZ, bw) _ ⟨hHeld, (qN_ aa), (qR_ av), ⟨_, rfl⟩, (rk a8), (rk a9), (ri118 ac), (rkk HK), (rbi HB)⟩)
)
·(
skip
refine gs Try.func52 #[.pointer (some ⟨g, 0, none⟩), .int .i64 3] ?_
with_reducible refine (spec_l1Below.calls g ak aH aI 3 aB bD bE w0 _ ?side1 ?side2 A7.out).mono ?_
(case side1 => exact ri118 ac)
(case side2 => exact rbi HB)
rintro e dB ⟨rfl, hi, hb, hk⟩
refine ⟨_, rfl, ?_⟩
replace a8 := kh a8 hk
replace aa := am (Kd.N_mono (Kd.N_keep (Kd.N_mono (ok := fun k_ => ((((w.heap.size ≤ k_)) ∧ (k_ ≠ af ∧ k_ ≠ g)) ∧ k_ ≠ ae)) (qN_ aa) (fun k_ hk_ => (⟨hk_, hk_.1.2.2⟩ : _ ∧ k_ ≠ g))) hk (fun _ h => h.2)) (fun _ h => h.1))
replace a9 := kh a9 hk
replace HK := kt HK hk
replace HB := am (hb)
replace ac := am (hi)
(try clear hb)
(try clear hk)
(try clear hi)
refine hK.out _ _ (bc2 a9) (fun hHeld => ?_)
clear hK K
refine norm_ (a' := _) (show Act.put _ (some 17) _ = _ from na) ?_
refine o1 3 15 (bm 10 63) HT_ (fun K hK => ?_)
refine Kd.R_lit_step (Kd.int .i64) _ 2 ?hg (N := 15) ?hd (xs := ([0, wrap64 (ai + 1), 61] : List Int)) (inner := [.int .i64 0, .int .i64 (wrap64 (ai + 1)), .int .i64 61]) (ok := fun _ => True) (okp := fun _ => True) ?hr ?hp (fun _ hk => hk) trivial (Below.refl _ _) (Nat.le_refl _) (by simp) ?_; (case hd => rfl); (case hg => rfl); (case hr => first | (go_simp; done) | (go_simp; rfl)); (case hp => exact (Reps.one (show Kd.M (Kd.int .i64) _ _ _ 0 [.int .i64 0] from rfl) (Reps.one (show Kd.M (Kd.int .i64) _ _ _ (wrap64 (ai + 1)) [.int .i64 (wrap64 (ai + 1))] from rfl) (Reps.one (show Kd.M (Kd.int .i64) _ _ _ 61 [.int .i64 61] from rfl) (Reps.none _ _)))))
intro cl eT b5 hb hg_ hnew_
clear hg_ hnew_
(first | rw [← aR.out] at b5 | (simp only [Int.reduceToNat] at b5; rw [← aR.out] at b5))
replace aa := am (Kd.N_elder' (qN_ aa) (Kd.R_base b5) hb)
have av := am (Kd.R_lower (Kd.R_newM (M := fun k_ => (w.heap.size ≤ k_)) b5 (ks HK) (fun k_ h_ => h_)) (ks HK))
replace a8 := kk a8 hb
replace a9 := kk a9 hb
replace HK := kb HK hb
replace HB := bsi HB hb
replace ac := am (IsS118.below (ri118 ac) hb)
clear hb b5
obtain ⟨dP, cH, cO⟩ := Kd.R_slice av.out
subst cO
obtain ⟨bN, fo23, _⟩ := Kd.at_int (Kd.R_reads' av.out).2.2 0 (by decide) (by rw [aR.out]; simp)
cases fo23
refine hK.out _ _ (bc2 a9) (fun hHeld => ?_)
clear hK K
refine norm_ (a' := _) (show Act.put _ (some 15) _ = _ from na) ?_
exact norm_ nz0 (hCont (.slice (some bN) aD.length cH, bN) _ ⟨hHeld, (qN_ aa), (qR_ av), ⟨_, rfl⟩, (rk a8), (rk a9), (ri118 ac), (rkk HK), (rbi HB)⟩)
)
)
rintro ⟨cl, adz_v688⟩ dC ⟨hHeld, h0_, h1_, h2_, h3_, h4_, h5_, h6_, h7_⟩
(try dsimp only at hHeld h0_ h1_ h2_ h3_ h4_ h5_ h6_ h7_)
replace aa := am h0_; have av := am h1_; have HA_HO689 := am h2_; replace a8 := am h3_; replace a9 := am h4_; replace ac := am h5_; replace HK := am h6_; replace HB := am h7_
clear h0_ h1_ h2_ h3_ h4_ h5_ h6_ h7_
obtain ⟨dX, cP⟩ := HA_HO689.out
clear HA_HO689
subst cP
refine norm_ (a' := _) nr ?_
refine pu_ 6 18 (bm 10 127) HT_.out ?_
refine o1 7 19 (bm 10 255) HT_ (fun K hK => ?_)
(have cX : 0 ≤ (aB : Int) := dt_; have cY : aB < (aD.length : Int) := dt_; obtain ⟨cq, cL, bU⟩ := Kd.at_int (Kd.R_reads' av.out).2.2 aB cX cY; obtain rfl : adz_v688 = cq := (by injection cL))
refine value_ (w1 := ?_) (v := ?_) (by rfl) rfl ?_ ?_
rotate_left 2
·(
go_simp
constructor
·rfl
·rfl
)
clear bU
refine hK.out _ _ (bc2 a9) (fun hHeld => ?_)
clear hK K
refine norm_ (a' := _) (show Act.put _ (some 19) _ = _ from na) ?_
refine pu_ 8 20 (bm 10 511) HT_.out ?_
refine last_ (i := 9) (N := none) (bm 10 1023) rfl rfl (one_of HT_.out (by kernel_rfl)) (by decide) (fun K hK => ?_)
have dZ : dC.cell? ⟨ae, 0, none⟩ = some (.int .i64 ai) := (blk_cell a9.out 0).trans rfl
have dI := blk_frozen a9.out 0
have d5 := ao.out
have d3 := al.out
refine skip_ (w1 := ?_) (by rfl) rfl ?_ ?_
rotate_left
·(
go_simp
rfl
)
refine hK.out _ _ ?_
clear hK K
refine done_ (done_of HT_.out (by kernel_rfl)) ?_
have eE := z2 a9
have eh := nN aq
have eF := z2 a8
try go_wp2
refine bodyPost_ret (results_cell_row rfl _ _ af 58 #[.int .i64 (rd aD aB), .slice bg aj.length bi] (0, 0) _ rfl (rk a8) Try.underlying58 rfl (by kernel_rfl)) rfl ?_
exact ⟨_, ew, rN_ aa, ri118 ac, rbi HB, rkk HK⟩
)
)
·(
replace c4 := Bool.eq_false_iff.mpr c4
subst c4
rw [if_neg (show ¬ (false = true) by decide)] at H
simp only [Option.some.injEq, Prod.mk.injEq] at H
obtain ⟨rfl, rfl, rfl, rfl⟩ := H
go_enter Try.func84, Try.ntmps84
go_wp2_with (first | (refine bx 2 #[.int .i64 0, .slice none 0 0] 58 ?_; intro af hg ff hbox hb; replace HB := bsi HB hb; have a8 := am (hbox); have bq := am (gk hg HK); have bo := am ((Nat.le_trans b9.out (gk hg HK) : w0.heap.size ≤ af)); replace HK := kb HK hb; have az := am (il118 hg ac); have aq := ns az; replace ac := am (IsS118.below (ri118 ac) hb); clear hb hbox hg) | ((with_reducible refine cg 114 rfl ?_); refine gl_ (some 5) Try.func114 #[.pointer (some ⟨g, 0, none⟩)] ?_; (with_reducible refine (spec_l5Draw.calls k g ak b6 b7 ai aj aK aM w0 _ ?side1 ?side2 A2.out).mono ?_); (case side1 => exact ri118 ac); (case side2 => exact rbi HB); rintro e fg ⟨bJ, rfl, ay, hi, hb, hk⟩; refine ⟨_, rfl, ?_⟩; have aa := am (Kd.N_lower (Kd.N_mono (ok' := fun k_ => (w.heap.size ≤ k_) ∧ k_ ≠ af ∧ k_ ≠ g) (Kd.S_N (Kd.S_bound ay)) (fun k_ hk_ => ⟨(Nat.le_trans (ks HK) hk_.2.1), (Kd.freshB (rk a8) k_ hk_.2.1), (IsS118.fresh (ri118 ac) k_ hk_.2.1)⟩)) (ks HK)); replace a8 := kh a8 hk; replace HK := kt HK hk; replace HB := am (hb); replace ac := am (hi); (try clear hb); (try clear aJ); (try clear hk); (try clear hi); (try clear ay)) | (refine bx 3 #[.int .i64 0, .slice none 0 0] 58 ?_; intro ae hg fh hbox hb; replace aa := am (Kd.N_below (Kd.N_elderB (qN_ aa) ae (Nat.le_of_eq hg.symm)) hb); replace HB := bsi HB hb; have a9 := am (hbox); have br := am (gk hg HK); have bp := am ((Nat.le_trans b9.out (gk hg HK) : w0.heap.size ≤ ae)); replace HK := kb HK hb; have ao := am (nl hg (rk a8)); have al := ns ao; replace a8 := kk a8 hb; have aA := am (il118 hg ac); have au := ns aA; replace ac := am (IsS118.below (ri118 ac) hb); clear hb hbox hg; have ev := nN al; have ex := nN au; have eN := z2 a9; obtain ⟨cE, cK, cS⟩ := Kd.N_slice aa.out; subst cS) | ((with_reducible refine cg 51 rfl ?_); refine gl_ (some 7) Try.func51 #[.pointer (some ⟨g, 0, none⟩), .int .i64 12] ?_; (with_reducible refine (spec_l1Once.calls g ak aK aM 12 false aN aQ w0 _ ?side1 ?side2 A3.out).mono ?_); (case side1 => exact ri118 ac); (case side2 => exact rbi HB); rintro e eC ⟨rfl, hi, hb, hk⟩; refine ⟨_, rfl, ?_⟩; replace a8 := kh a8 hk; replace aa := am (Kd.N_mono (Kd.N_keep (Kd.N_mono (ok := fun k_ => ((((w.heap.size ≤ k_)) ∧ (k_ ≠ af ∧ k_ ≠ g)) ∧ k_ ≠ ae)) (rN_ aa) (fun k_ hk_ => (⟨hk_, hk_.1.2.2⟩ : _ ∧ k_ ≠ g))) hk (fun _ h => h.2)) (fun _ h => h.1)); replace a9 := kh a9 hk; replace HK := kt HK hk; replace HB := am (hb); replace ac := am (hi); (try clear hb); (try clear aJ); (try clear hk); (try clear hi); have dM := z2 a9; have dK := nN aq; have dN := z2 a8))
refine bodyPost_ret (results_cell_row rfl _ _ af 58 #[.int .i64 ai, .slice cE aj.length cK] (0, 0) _ rfl (rk a8) Try.underlying58 rfl (by kernel_rfl)) rfl ?_
exact ⟨_, ew, rN_ aa, ri118 ac, rbi HB, rkk HK⟩
)
)

end Go.Proofs.Ytalopdcephohgaa.RD
