/- Contracts of Go functions that laws of this seat reach: each Lean function answers as its Go function does. No condition. Written by wip/tools/inj.py, over the kit's print. -/
import Derived.Test.YtalopdcephohgaaRAx0
import Derived.Test.YtalopdcephohgaaRAx1
import Derived.Test.YtalopdcephohgaaRAx4
import Derived.Test.YtalopdcephohgaaRAx5
namespace Go.Proofs.Ytalopdcephohgaa.RA
open Go.RowKit Go.Proofs.YtalopdcephohgaaW.PrintWords Go.Proofs.YtalopdcephohgaaW.PrintLast Go.Proofs.YtalopdcephohgaaW.PrintMore
attribute [local go_sem] max2_int min2_int max_two min_two max_three min_three max_four min_four   -- for this text's walks alone
set_option linter.unusedVariables false
set_option linter.unusedSimpArgs false

/-! ### spec_DrawKeep: function 9 -/
def spec_DrawKeep.f (k : Nat) (l0 : List Int) : Option (Int × List ByteArray × Int × ByteArray) := (spec_l1New.f k l0).bind fun bt204 => ((spec_l12Draw.f k bt204.1 bt204.2.1 bt204.2.2).bind fun bt208 => ((spec_l1Once.f bt204.1 bt208.2.2.2.1 bt208.2.2.2.2 12).bind fun bt216 => (if bt216.1 = true then ((spec_l1Below.f bt204.1 bt216.2.1 bt216.2.2 2).bind fun bt219 => (if 0 ≤ (wrap64 (300 + bt219.1)) then (if (wrap64 (300 + bt219.1) : Int).toNat ≤ 281474976710656 then (some (bt208.1, bt208.2.1, bt208.2.2.1, strOfNums (List.replicate (wrap64 (300 + bt219.1) : Int).toNat 0))) else (none)) else (none))) else ((some (([(⟨#[97, 98, 97, 98]⟩ : ByteArray), (⟨#[110, 101, 119]⟩ : ByteArray)] : List ByteArray) : List ByteArray)).bind fun y225 => ((spec_l1Below.f bt204.1 bt216.2.1 bt216.2.2 2).bind fun bt228 => (if 0 ≤ bt228.1 then (if bt228.1 < (y225.length : Int) then (some (bt208.1, bt208.2.1, bt208.2.2.1, rdOf ByteArray.empty y225 bt228.1)) else (none)) else (none)))))))
theorem spec_DrawKeep.mono : ∀ a0 k, LeO (spec_DrawKeep.f k a0) (spec_DrawKeep.f (k + 1) a0) := by
 intro a0 k
 unfold spec_DrawKeep.f
 repeat' first
   | (with_reducible exact spec_l12Draw.mono _ _ _ _)
   | (with_reducible exact spec_l1New.mono _ _)
   | (with_reducible exact LeO.refl _)
   | (with_reducible exact LeO.none _)
   | (with_reducible refine LeO.ite ?_ ?_)
   | (with_reducible refine LeO.bind ?_ (fun _ => ?_))
def spec_DrawKeep.T4 : Bool × List (List Nat × List Nat) := (true, [([], []), ([], []), ([1], [1]), ([2], [2]), ([3, 3], [3]), ([4], [4]), ([0, 2, 0], [0]), ([5, 6, 0, 1, 2, 3, 4, 5, 6], [5])])
def spec_DrawKeep.B4 : List Nat := [0, 0, 2, 6, 14, 30, 7, 127]
theorem spec_DrawKeep.tab4 : rtab .any (opsOf Try.f9 4) = spec_DrawKeep.T4 := by kernel_rfl
theorem spec_DrawKeep.bits4 : waitsOk spec_DrawKeep.T4.2 spec_DrawKeep.B4 = true := by kernel_rfl
def spec_DrawKeep.T5 : Bool × List (List Nat × List Nat) := (true, [([], []), ([], []), ([], []), ([2], [2]), ([1, 3], [1, 3]), ([4], [4]), ([0, 3, 0], [0]), ([5, 6, 0, 1, 2, 3, 4, 5, 6], [5])])
def spec_DrawKeep.B5 : List Nat := [0, 0, 0, 4, 14, 30, 13, 127]
theorem spec_DrawKeep.tab5 : rtab .any (opsOf Try.f9 5) = spec_DrawKeep.T5 := by kernel_rfl
theorem spec_DrawKeep.bits5 : waitsOk spec_DrawKeep.T5.2 spec_DrawKeep.B5 = true := by kernel_rfl
set_option maxHeartbeats 8000000 in
set_option maxRecDepth 100000 in
theorem spec_DrawKeep.calls (k : Nat) (A0 : Option Addr) (c0 : Nat) (l0 : List Int) (r1 : Int) (r2 : List ByteArray) (r3 : Int) (r4 : ByteArray) (w : World) (hr0 : Kd.C (Kd.int .u8) w A0 l0.length l0) (hc0 : l0.length ≤ c0) (h : spec_DrawKeep.f k l0 = some (r1, r2, r3, r4)) :
  Calls Try.prog 9 #[.slice A0 l0.length c0] w fun e w' => ∃ v1_ : Value, e = .returned (.tuple #[.agg #[.int .i64 r1, v1_, .int .i64 r3], .string r4]) ∧ Kd.Q Kd.string 9 w' w.heap.size (fun _ => True) v1_ r2 ∧ Below w.heap.size w w' := by
 (
have hu26 := Try.underlying26
have HR0 := am hr0
have HC0 := am hc0
clear hr0 hc0
have HB := am (Below.refl w.heap.size w)
have H := h
unfold spec_DrawKeep.f at H
clear h
replace H := Option.bind_eq_some_iff.mp H
obtain ⟨⟨t204, t205, t206⟩, A20, H⟩ := H
(try dsimp only at H)
have A2 := am A20
clear A20
replace H := Option.bind_eq_some_iff.mp H
obtain ⟨⟨t208, t209, t212, t213, t214⟩, A30, H⟩ := H
(try dsimp only at H)
have A3 := am A30
clear A30
replace H := Option.bind_eq_some_iff.mp H
obtain ⟨⟨t216, t217, t218⟩, A40, H⟩ := H
(try dsimp only at H)
have A4 := am A40
clear A40
refine em_ (p := t216 = true) (fun c5 => ?g4p) (fun c5 => ?g4n)
case' g4p => (
subst c5
rw [if_pos rfl] at H
replace H := Option.bind_eq_some_iff.mp H
obtain ⟨⟨t219, t220, t221⟩, A60, H⟩ := H
(try dsimp only at H)
have A6 := am A60
clear A60
obtain ⟨ji7, hji7⟩ : ∃ j_ : Int, (wrap64 (300 + t219)) = j_ := ⟨_, rfl⟩
replace H : (if 0 ≤ (ji7) then (if (ji7 : Int).toNat ≤ 281474976710656 then (some (t208, t209, t212, strOfNums (List.replicate (ji7 : Int).toNat 0))) else (none)) else (none)) = some (r1, r2, r3, r4) := by first | (rw [hji7] at H; exact H) | (simp only [hji7] at H ⊢; exact H)
(try rw [hji7] at A2)
(try rw [hji7] at A3)
(try rw [hji7] at A4)
(try rw [hji7] at A6)
have hji7w : (IntKind.i64.wrap (300 + t219)) = ji7 := (i64_w _).trans hji7
refine em_ (p := 0 ≤ (ji7)) (fun c8 => ?g1p) (fun c8 => ?g1n)
case' g1p => (
rw [if_pos c8] at H
have c8b0 := eq_true c8
have c8b1 : decide (0 ≤ (ji7)) = true := decide_eq_true c8
clear c8
refine em_ (p := (ji7 : Int).toNat ≤ 281474976710656) (fun c9 => ?g0p) (fun c9 => ?g0n)
case' g0p => (
rw [if_pos c9] at H
have c9b0 := eq_true c9
have c9b1 : decide ((ji7 : Int).toNat ≤ 281474976710656) = true := decide_eq_true c9
clear c9
obtain ⟨y222, hy222⟩ : ∃ y_ : List Int, y_ = (List.replicate (ji7 : Int).toNat 0) := ⟨_, rfl⟩
replace H : (some (t208, t209, t212, strOfNums y222)) = some (r1, r2, r3, r4) := by first | (rw [hy222]; with_reducible exact H) | (rw [hy222]; exact H) | exact H
have Ny222 := am hy222
clear hy222
simp only [Option.some.injEq, Prod.mk.injEq] at H
obtain ⟨rfl, rfl, rfl, rfl⟩ := H
have lf1_ := trivial
)
case g0n => (
rw [if_neg c9] at H
exact absurd H (by simp)
)
)
case g1n => (
rw [if_neg c8] at H
exact absurd H (by simp)
)
)
case' g4n => (
replace c5 := Bool.eq_false_iff.mpr c5
subst c5
rw [if_neg (show ¬ (false = true) by decide)] at H
obtain ⟨y225, hy225⟩ : ∃ y_ : List ByteArray, y_ = (([(⟨#[97, 98, 97, 98]⟩ : ByteArray), (⟨#[110, 101, 119]⟩ : ByteArray)] : List ByteArray)) := ⟨_, rfl⟩
replace H : ((spec_l1Below.f t204 t217 t218 2).bind fun bt228 => (if 0 ≤ bt228.1 then (if bt228.1 < (y225.length : Int) then (some (t208, t209, t212, rdOf ByteArray.empty y225 bt228.1)) else (none)) else (none))) = some (r1, r2, r3, r4) := by first | (rw [hy225]; with_reducible exact H) | (rw [hy225]; exact H) | exact H
have Ny225 := am hy225
clear hy225
replace H := Option.bind_eq_some_iff.mp H
obtain ⟨⟨t228, t229, t230⟩, A280, H⟩ := H
(try dsimp only at H)
have A28 := am A280
clear A280
refine em_ (p := 0 ≤ t228) (fun c29 => ?g3p) (fun c29 => ?g3n)
case' g3p => (
rw [if_pos c29] at H
have c29b0 : decide (0 ≤ t228) = true := decide_eq_true c29
clear c29
refine em_ (p := t228 < (y225.length : Int)) (fun c30 => ?g2p) (fun c30 => ?g2n)
case' g2p => (
rw [if_pos c30] at H
have c30b0 : decide (t228 < (y225.length : Int)) = true := decide_eq_true c30
clear c30
simp only [Option.some.injEq, Prod.mk.injEq] at H
obtain ⟨rfl, rfl, rfl, rfl⟩ := H
have lf2_ := trivial
)
case g2n => (
rw [if_neg c30] at H
exact absurd H (by simp)
)
)
case g3n => (
rw [if_neg c29] at H
exact absurd H (by simp)
)
)
all_goals (
go_enter Try.func9, Try.ntmps9
try go_wp2_with (first | ((with_reducible refine gate_dst (N := 5) rfl ?_); refine box_event ?hg (N := 5) ?hd (cs := #[.int .i64 0, .slice none 0 0, .int .i64 0]) (t := 26) ?hr ?_; (case hd => rfl); (case hg => rfl); (case hr => first | (go_simp; done) | (go_simp; rfl)); intro gb215 hg w13 hbox hb; replace HO211 := am (Kd.Q_below (rq HO211) hb); have BK215 := am (hbox); have GW215 := am ((by rw [hg]; exact (below_size (by repeat (first | (with_reducible first | exact HB.out | apply b1 | apply b2 | apply b3 | refine below_set ?_ (IsS118.ge HI207.out) | refine below_set ?_ GE203.out) | exact HB.out))) : w.heap.size ≤ gb215)); have GE215 := am ((by rw [hg]; exact (below_size (by repeat (first | (with_reducible first | exact HB.out | apply b1 | apply b2 | apply b3 | refine below_set ?_ (IsS118.ge HI207.out) | refine below_set ?_ GE203.out) | exact HB.out))) : w.heap.size ≤ gb215)); replace HB := am (below_step (by repeat (first | (with_reducible first | exact HB.out | apply b1 | apply b2 | apply b3 | refine below_set ?_ (IsS118.ge HI207.out) | refine below_set ?_ GE203.out) | exact HB.out)) hb); have NB203_215 := am (nl hg (rk BK203)); have NB215_203 := am (ng hg (rk BK203)); replace BK203 := am (blk_below (rk BK203) hb); have NB207_215 := am ((by rw [hg]; exact Nat.ne_of_lt (IsS118.lt (show IsS118 w _ g207 t204 t213 t214 from by repeat (first | (with_reducible first | exact HI207.out | apply IsS118.alloc | apply IsS118.drewN | apply IsS118.drew | apply IsS118.set_1 | apply IsS118.set_2 | refine IsS118.far ?_ NB207_203.out _) | exact HI207.out))) : g207 ≠ gb215)); have NB215_207 := am ((by rw [hg]; exact Nat.ne_of_gt (IsS118.lt (show IsS118 w _ g207 t204 t213 t214 from by repeat (first | (with_reducible first | exact HI207.out | apply IsS118.alloc | apply IsS118.drewN | apply IsS118.drew | apply IsS118.set_1 | apply IsS118.set_2 | refine IsS118.far ?_ NB207_203.out _) | exact HI207.out))) : gb215 ≠ g207)); replace HI207 := am (IsS118.below (by repeat (first | (with_reducible first | exact HI207.out | apply IsS118.alloc | apply IsS118.drewN | apply IsS118.drew | apply IsS118.set_1 | apply IsS118.set_2 | refine IsS118.far ?_ NB207_203.out _) | exact HI207.out)) hb); clear hb hbox hg; have hnb14 := NB215_203.out; have hnc14 := NB203_215.out; have hnb15 := NB215_207.out; have hnc15 := NB207_215.out; have hcz16_0 : w13.cell? ⟨gb215, 0, none⟩ = some (.int .i64 0) := (blk_cell BK215.out 0).trans rfl; have hcz16_1 : w13.cell? ⟨gb215, 1, none⟩ = some (.slice none 0 0) := (blk_cell BK215.out 1).trans rfl; have hcz16_2 : w13.cell? ⟨gb215, 2, none⟩ = some (.int .i64 0) := (blk_cell BK215.out 2).trans rfl; have hfz16_0 := blk_frozen BK215.out 0; have hfz16_1 := blk_frozen BK215.out 1; have hfz16_2 := blk_frozen BK215.out 2; obtain ⟨Ao17, co17, eo17, _⟩ := Kd.Q_slice HO211.out; subst eo17) | ((with_reducible refine gate_callee (f := 51) rfl ?_); refine gl_ (some 11) Try.func51 #[.pointer (some ⟨g207, 0, none⟩), .int .i64 12] ?_; (with_reducible refine (spec_l1Once.calls g207 t204 t213 t214 12 false t217 t218 w _ ?side1 ?side2 A4.out).mono ?_); (case side1 => repeat (first | (with_reducible first | exact HI207.out | apply IsS118.alloc | apply IsS118.drewN | apply IsS118.drew | apply IsS118.set_1 | apply IsS118.set_2 | refine IsS118.far ?_ NB207_203.out _ | refine IsS118.far ?_ NB207_215.out _) | exact HI207.out)); (case side2 => repeat (first | (with_reducible first | exact HB.out | apply b1 | apply b2 | apply b3 | refine below_set ?_ (IsS118.ge HI207.out) | refine below_set ?_ GE203.out | refine below_set ?_ GE215.out) | exact HB.out)); rintro e w39 ⟨rfl, hi, hb, hk⟩; refine ⟨_, rfl, ?_⟩; replace BK203 := am (KeepBut.blk hk (g' := gb203) (o := .cells #[.int .i64 0, .slice none 0 0, .int .i64 0] 26 (0, 0)) (rf3 NB203_215 BK203) NB203_207.out (by simp)); replace HO211 := am (Kd.Q_mono (Kd.Q_keep (IsS118.apartQ (show IsS118 w _ g207 t204 t213 t214 from by repeat (first | (with_reducible first | exact HI207.out | apply IsS118.alloc | apply IsS118.drewN | apply IsS118.drew | apply IsS118.set_1 | apply IsS118.set_2 | refine IsS118.far ?_ NB207_203.out _ | refine IsS118.far ?_ NB207_215.out _) | exact HI207.out)) (Qf3 HO211 BK215) (by decide)) hk (fun _ h => h.2)) (fun _ h => h.1)); replace BK215 := am (KeepBut.blk hk (g' := gb215) (o := .cells #[.int .i64 t208, .slice Ao17 t209.length co17, .int .i64 t212] 26 (0, 0)) (rp_0_1_2 BK215) NB215_207.out (by simp)); replace HB := am (hb); replace HI207 := am (hi); (try clear hb); (try clear hb2); (try clear hk); (try clear hi)) | ((with_reducible refine gate_callee (f := 51) rfl ?_); refine gl_ (some 11) Try.func51 #[.pointer (some ⟨g207, 0, none⟩), .int .i64 12] ?_; (with_reducible refine (spec_l1Once.calls g207 t204 t213 t214 12 true t217 t218 w _ ?side1 ?side2 A4.out).mono ?_); (case side1 => repeat (first | (with_reducible first | exact HI207.out | apply IsS118.alloc | apply IsS118.drewN | apply IsS118.drew | apply IsS118.set_1 | apply IsS118.set_2 | refine IsS118.far ?_ NB207_203.out _ | refine IsS118.far ?_ NB207_215.out _) | exact HI207.out)); (case side2 => repeat (first | (with_reducible first | exact HB.out | apply b1 | apply b2 | apply b3 | refine below_set ?_ (IsS118.ge HI207.out) | refine below_set ?_ GE203.out | refine below_set ?_ GE215.out) | exact HB.out)); rintro e w18 ⟨rfl, hi, hb, hk⟩; refine ⟨_, rfl, ?_⟩; replace BK203 := am (KeepBut.blk hk (g' := gb203) (o := .cells #[.int .i64 0, .slice none 0 0, .int .i64 0] 26 (0, 0)) (rf3 NB203_215 BK203) NB203_207.out (by simp)); replace HO211 := am (Kd.Q_mono (Kd.Q_keep (IsS118.apartQ (show IsS118 w _ g207 t204 t213 t214 from by repeat (first | (with_reducible first | exact HI207.out | apply IsS118.alloc | apply IsS118.drewN | apply IsS118.drew | apply IsS118.set_1 | apply IsS118.set_2 | refine IsS118.far ?_ NB207_203.out _ | refine IsS118.far ?_ NB207_215.out _) | exact HI207.out)) (Qf3 HO211 BK215) (by decide)) hk (fun _ h => h.2)) (fun _ h => h.1)); replace BK215 := am (KeepBut.blk hk (g' := gb215) (o := .cells #[.int .i64 t208, .slice Ao17 t209.length co17, .int .i64 t212] 26 (0, 0)) (rp_0_1_2 BK215) NB215_207.out (by simp)); replace HB := am (hb); replace HI207 := am (hi); (try clear hb); (try clear hb2); (try clear hk); (try clear hi)) | ((with_reducible refine gate_callee (f := 50) rfl ?_); refine gl_ (some 9) Try.func50 #[.pointer (some ⟨g207, 0, none⟩)] ?_; (with_reducible refine (spec_l12Draw.calls k g207 t204 t205 t206 t208 t209 t212 t213 t214 w _ ?side1 ?side2 A3.out).mono ?_); (case side1 => repeat (first | (with_reducible first | exact HI207.out | apply IsS118.alloc | apply IsS118.drewN | apply IsS118.drew | apply IsS118.set_1 | apply IsS118.set_2 | refine IsS118.far ?_ NB207_203.out _) | exact HI207.out)); (case side2 => repeat (first | (with_reducible first | exact HB.out | apply b1 | apply b2 | apply b3 | refine below_set ?_ (IsS118.ge HI207.out) | refine below_set ?_ GE203.out) | exact HB.out)); rintro e w12 ⟨v210, rfl, ho0, hi, hb, hk⟩; refine ⟨_, rfl, ?_⟩; replace BK203 := am (KeepBut.blk hk (g' := gb203) (o := .cells #[.int .i64 0, .slice none 0 0, .int .i64 0] 26 (0, 0)) (rk BK203) NB203_207.out (by simp)); have HO211 := am (Kd.Q_lower ho0 (below_size (by repeat (first | (with_reducible first | exact HB.out | apply b1 | apply b2 | apply b3 | refine below_set ?_ (IsS118.ge HI207.out) | refine below_set ?_ GE203.out) | exact HB.out)))); replace HB := am (hb); replace HI207 := am (hi); (try clear hb); (try clear hb2); (try clear hk); (try clear hi); (try clear ho0)) | ((with_reducible refine gate_callee (f := 49) rfl ?_); refine gl_ (some 7) Try.func49 #[.slice A0 l0.length c0] ?_; (with_reducible refine (spec_l1New.calls k _ _ l0 t204 t205 t206 w _ ?side1 ?side2 ?side3 A2.out).mono ?_); (case side1 => repeat (first | (with_reducible first | exact HB.out | apply b1 | apply b2 | apply b3 | refine below_set ?_ GE203.out) | exact HB.out)); (case side2 => exact HR0.out); (case side3 => exact HC0.out); rintro e w11 ⟨g207, rfl, hi, hb, hb2⟩; refine ⟨_, rfl, ?_⟩; replace HB := am (hb); have HI207 := am (hi); have NB207_203 := am (IsS118.ne_blk hi (blk_below (rk BK203) hb2) (by decide)); have NB203_207 := am (Ne.symm (IsS118.ne_blk hi (blk_below (rk BK203) hb2) (by decide))); replace BK203 := am (blk_below (rk BK203) hb2); (try clear hb); (try clear hb2); (try clear hk); (try clear hi)) | ((with_reducible refine gate_dst (N := 2) rfl ?_); refine box_event ?hg (N := 2) ?hd (cs := #[.int .i64 0, .slice none 0 0, .int .i64 0]) (t := 26) ?hr ?_; (case hd => rfl); (case hg => rfl); (case hr => first | (go_simp; done) | (go_simp; rfl)); intro gb203 hg w10 hbox hb; have BK203 := am (hbox); have GW203 := am (gw hg (rb HB)); have GE203 := GW203; replace HB := am (below_step (rb HB) hb); clear hb hbox hg))
first
| (
have pi231 : (0 ≤ (t228 : Int)) = True := eq_true dt_
have qi231 : (t228 < (y225.length : Int)) = True := eq_true dt_
)
| skip
replace HO211 := am (Kd.Q_drew HO211.out)
replace BK203 := am (blk_drew BK203.out)
replace BK215 := am (blk_drew BK215.out)
replace HI207 := am (IsS118.drew HI207.out)
replace HB := am (below_drew1 HB.out)
first
| (
have q_ := lf1_
refine start_ (n := 8) (S := fun w' => w'.cell? ⟨gb215, 0, none⟩ = some (.int .i64 t208) ∧ w'.cell? ⟨gb215, 1, none⟩ = some (.slice Ao17 t209.length co17) ∧ w'.cell? ⟨gb215, 2, none⟩ = some (.int .i64 t212)) (ds := []) (bm 8 0) (by kernel_rfl) rfl rfl (bc3 BK215) (fun hHeld => ?_); refine with_tabW spec_DrawKeep.tab4 spec_DrawKeep.bits4 (fun HT_ HW_ => ?_)
generalize w18.drew = w19 at HO211 BK203 BK215 HI207 HB hHeld ⊢
refine pu_ 1 13 (bm 8 2) HT_.out ?_
refine take_ (i := 0) (N := some 12) (v := ?_) (a' := ?_) (bm 8 3) rfl rfl (take_ofW HT_.out HW_.out (by kernel_rfl)) (fun _ _ _ h => h) (Or.inl ⟨by rfl, ?_⟩) hHeld ?_ ?_
rotate_left
·(
rintro w' ⟨s0, s1, s2⟩
go_simp
with_reducible rfl
)
rotate_left
·(
simp only [Act.put, List.setIfInBounds_toArray, List.set_cons_zero, List.set_cons_succ, i64_w, i32_w]
rfl
)
refine one_ (i := 2) (N := some 14) (bm 8 7) rfl rfl (one_of HT_.out (by kernel_rfl)) (by decide) (fun K hK => ?_)
refine goes_ Try.func52 (by kernel_rfl) rfl #[.pointer (some ⟨g207, 0, none⟩), .int .i64 2] (by rfl) rfl rfl mt ?_
with_reducible refine (spec_l1Below.calls g207 t204 t217 t218 2 t219 t220 t221 w _ ?side1 ?side2 A6.out).mono ?_
(case side1 => repeat (first | (with_reducible first | exact HI207.out | apply IsS118.alloc | apply IsS118.drewN | apply IsS118.drew | apply IsS118.set_1 | apply IsS118.set_2 | refine IsS118.far ?_ NB207_203.out _ | refine IsS118.far ?_ NB207_215.out _) | exact HI207.out))
(case side2 => repeat (first | (with_reducible first | exact HB.out | apply b1 | apply b2 | apply b3 | refine below_set ?_ (IsS118.ge HI207.out) | refine below_set ?_ GE203.out | refine below_set ?_ GE215.out) | exact HB.out))
rintro e w20 ⟨rfl, hi, hb, hk⟩
refine ⟨_, rfl, ?_⟩
replace BK203 := am (KeepBut.blk hk (g' := gb203) (o := .cells #[.int .i64 0, .slice none 0 0, .int .i64 0] 26 (0, 0)) (rk BK203) NB203_207.out (by simp))
replace HO211 := am (Kd.Q_mono (Kd.Q_keep (IsS118.apartQ (show IsS118 w _ g207 t204 t217 t218 from by repeat (first | (with_reducible first | exact HI207.out | apply IsS118.alloc | apply IsS118.drewN | apply IsS118.drew | apply IsS118.set_1 | apply IsS118.set_2 | refine IsS118.far ?_ NB207_203.out _ | refine IsS118.far ?_ NB207_215.out _) | exact HI207.out)) (rq HO211) (by decide)) hk (fun _ h => h.2)) (fun _ h => h.1))
replace BK215 := am (KeepBut.blk hk (g' := gb215) (o := .cells #[.int .i64 t208, .slice Ao17 t209.length co17, .int .i64 t212] 26 (0, 0)) (rk BK215) NB215_207.out (by simp))
replace HB := am (hb)
replace HI207 := am (hi)
(try clear hb)
(try clear hk)
(try clear hi)
refine hK.out _ _ (bc3 BK215) (fun hHeld => ?_)
clear hK K
refine norm_ (a' := _) (show Act.put _ (some 14) _ = _ from na) ?_
refine pu_ 3 15 (bm 8 15) HT_.out ?_
refine join_ (σ := Value) 1 (bm 8 127) (fun s_ => [(16, s_), (17, .string (strOfNums y222))]) (fun s_ w' => (w'.cell? ⟨gb215, 0, none⟩ = some (.int .i64 t208) ∧ w'.cell? ⟨gb215, 1, none⟩ = some (.slice Ao17 t209.length co17) ∧ w'.cell? ⟨gb215, 2, none⟩ = some (.int .i64 t212)) ∧ (Kd.Q Kd.string 9 w' w.heap.size (fun _ => True) (.slice Ao17 t209.length co17) t209) ∧ (Kd.R (Kd.int .u8) 5 w' w.heap.size (fun _ => True) s_ y222) ∧ (w'.heap[gb203]? = some (.cells #[.int .i64 t208, .slice Ao17 t209.length co17, .int .i64 t212] 26 (0, 0))) ∧ (w'.heap[gb215]? = some (.cells #[.int .i64 t208, .slice Ao17 t209.length co17, .int .i64 t212] 26 (0, 0))) ∧ (IsS118 w w' g207 t204 t220 t221) ∧ (Below w.heap.size w w')) ?_ ?_
rotate_left
·(
intro hCont
refine two_ (i := 4) (j := 6) (Ni := some 16) (Nj := none) (bm 8 31) (bm 8 79) rfl rfl rfl rfl (two_of HT_.out (by kernel_rfl)) (by decide) (by decide) (fun K hK => ?_) (fun K hK => ?_)
·(
skip
refine Kd.R_make_step (Kd.int .u8) _ 5 (by rfl) (N := 16) rfl 22 _ _ rfl ji7 rfl rfl Try.underlying22 (.int .u8 0) 1 info5 rfl (by decide) (by omega) 0 (ok := fun _ => True) (okp := fun _ => True) rfl (fun _ hk => hk) trivial dt_ (Nat.le_trans (Nat.mul_le_mul_right _ (dt_ : ji7.toNat ≤ 281474976710656)) (by omega)) (Below.refl _ _) (Nat.le_refl _) ?_
intro v223 w21 ho22 hb hg_ hnew_
clear hg_ hnew_
(first | rw [← Ny222.out] at ho22 | (simp only [Int.reduceToNat] at ho22; rw [← Ny222.out] at ho22))
replace HO211 := am (Kd.Q_below (rq HO211) hb)
have HO224 := am (Kd.R_lower ho22 (below_size (by repeat (first | (with_reducible first | exact HB.out | apply b1 | apply b2 | apply b3 | refine below_set ?_ (IsS118.ge HI207.out) | refine below_set ?_ GE203.out | refine below_set ?_ GE215.out) | exact HB.out))))
replace BK203 := am (blk_below (rk BK203) hb)
replace BK215 := am (blk_below (rk BK215) hb)
replace HB := am (below_step (by repeat (first | (with_reducible first | exact HB.out | apply b1 | apply b2 | apply b3 | refine below_set ?_ (IsS118.ge HI207.out) | refine below_set ?_ GE203.out | refine below_set ?_ GE215.out) | exact HB.out)) hb)
replace HI207 := am (IsS118.below (by repeat (first | (with_reducible first | exact HI207.out | apply IsS118.alloc | apply IsS118.drewN | apply IsS118.drew | apply IsS118.set_1 | apply IsS118.set_2 | refine IsS118.far ?_ NB207_203.out _ | refine IsS118.far ?_ NB207_215.out _) | exact HI207.out)) hb)
clear hb ho22
refine hK.out _ _ (bc3 BK215) (fun hHeld => ?_)
clear hK K
refine norm_ (a' := _) (show Act.put _ (some 16) _ = _ from na) ?_
refine two_ (i := 5) (j := 6) (Ni := some 17) (Nj := none) (bm 8 63) (bm 8 95) rfl rfl rfl rfl (two_of HT_.out (by kernel_rfl)) (by decide) (by decide) (fun K hK => ?_) (fun K hK => ?_)
·(
skip
have hcv23 := own_string (P := Try.prog) Try.underlying22 Try.underlying5 Try.underlying9 (Kd.own_of_R HO224.out)
refine value_ (w1 := ?_) (v := ?_) (by rfl) rfl ?_ ?_
rotate_left 2
·(
go_simp
constructor
·rfl
·rfl
)
clear hcv23
refine hK.out _ _ (bc3 BK215) (fun hHeld => ?_)
clear hK K
refine norm_ (a' := _) (show Act.put _ (some 17) _ = _ from na) ?_
refine one_ (i := 6) (N := none) (bm 8 127) rfl rfl (one_of HT_.out (by kernel_rfl)) (by decide) (fun K hK => ?_)
have hs24 : w21.cell? ⟨gb203, 0, none⟩ = some (.int .i64 0) := (blk_cell BK203.out 0).trans rfl
have hfs24 := blk_frozen BK203.out 0
have hns24_1 := NB215_203.out
have hms24_1 := NB203_215.out
have hs25 : w21.cell? ⟨gb203, 1, none⟩ = some (.slice none 0 0) := (blk_cell BK203.out 1).trans rfl
have hfs25 := blk_frozen BK203.out 1
have hns25_1 := NB215_203.out
have hms25_1 := NB203_215.out
have hs26 : w21.cell? ⟨gb203, 2, none⟩ = some (.int .i64 0) := (blk_cell BK203.out 2).trans rfl
have hfs26 := blk_frozen BK203.out 2
have hns26_1 := NB215_203.out
have hms26_1 := NB203_215.out
refine skip_ (w1 := ?_) (by rfl) rfl ?_ ?_
rotate_left
·(
go_simp
rfl
)
refine hK.out _ _ ⟨((cell_far (p := ⟨gb203, _, none⟩) NB215_203.out _).trans (((cell_far (p := ⟨gb203, _, none⟩) NB215_203.out _).trans (((cell_far (p := ⟨gb203, _, none⟩) NB215_203.out _).trans (hHeld.1)))))), ((cell_far (p := ⟨gb203, _, none⟩) NB215_203.out _).trans (((cell_far (p := ⟨gb203, _, none⟩) NB215_203.out _).trans (((cell_far (p := ⟨gb203, _, none⟩) NB215_203.out _).trans (hHeld.2.1)))))), ((cell_far (p := ⟨gb203, _, none⟩) NB215_203.out _).trans (((cell_far (p := ⟨gb203, _, none⟩) NB215_203.out _).trans (((cell_far (p := ⟨gb203, _, none⟩) NB215_203.out _).trans (hHeld.2.2))))))⟩ (fun hHeld => ?_)
clear hK K
exact norm_ nz0 (hCont (v223) _ ⟨hHeld, (by (with_reducible repeat (first | apply Kd.Q_alloc | apply Kd.Q_drewN | apply Kd.Q_drew)); exact Kd.Q_mono (Kd.Q_far (p := ⟨gb203, 2, none⟩) (Kd.Q_far (p := ⟨gb203, 1, none⟩) (Kd.Q_far (p := ⟨gb203, 0, none⟩) (Kd.Q_types HO211.out BK203.out (by decide)) (fun _ hk => hk.2) (.int .i64 t208)) (fun _ hk => hk.2) (.slice Ao17 t209.length co17)) (fun _ hk => hk.2) (.int .i64 t212)) (fun _ hk => trivial)), (by (with_reducible repeat (first | apply r1 | apply r2 | apply r3)); exact Kd.R_mono (Kd.R_far (p := ⟨gb203, 2, none⟩) (Kd.R_far (p := ⟨gb203, 1, none⟩) (Kd.R_far (p := ⟨gb203, 0, none⟩) (Kd.R_types HO224.out BK203.out (by decide)) (fun _ hk => hk.2) (.int .i64 t208)) (fun _ hk => hk.2) (.slice Ao17 t209.length co17)) (fun _ hk => hk.2) (.int .i64 t212)) (fun _ hk => trivial)), (rp_0_1_2 BK203), (rf3 NB215_203 BK215), (by repeat (first | (with_reducible first | exact HI207.out | apply IsS118.alloc | apply IsS118.drewN | apply IsS118.drew | apply IsS118.set_1 | apply IsS118.set_2 | refine IsS118.far ?_ NB207_203.out _ | refine IsS118.far ?_ NB207_215.out _) | exact HI207.out)), (by repeat (first | (with_reducible first | exact HB.out | apply b1 | apply b2 | apply b3 | refine below_set ?_ (IsS118.ge HI207.out) | refine below_set ?_ GE203.out | refine below_set ?_ GE215.out) | exact HB.out))⟩)
)
·(
skip
have hs23 : w21.cell? ⟨gb203, 0, none⟩ = some (.int .i64 0) := (blk_cell BK203.out 0).trans rfl
have hfs23 := blk_frozen BK203.out 0
have hns23_1 := NB215_203.out
have hms23_1 := NB203_215.out
have hs24 : w21.cell? ⟨gb203, 1, none⟩ = some (.slice none 0 0) := (blk_cell BK203.out 1).trans rfl
have hfs24 := blk_frozen BK203.out 1
have hns24_1 := NB215_203.out
have hms24_1 := NB203_215.out
have hs25 : w21.cell? ⟨gb203, 2, none⟩ = some (.int .i64 0) := (blk_cell BK203.out 2).trans rfl
have hfs25 := blk_frozen BK203.out 2
have hns25_1 := NB215_203.out
have hms25_1 := NB203_215.out
refine skip_ (w1 := ?_) (by rfl) rfl ?_ ?_
rotate_left
·(
go_simp
rfl
)
refine hK.out _ _ ⟨((cell_far (p := ⟨gb203, _, none⟩) NB215_203.out _).trans (((cell_far (p := ⟨gb203, _, none⟩) NB215_203.out _).trans (((cell_far (p := ⟨gb203, _, none⟩) NB215_203.out _).trans (hHeld.1)))))), ((cell_far (p := ⟨gb203, _, none⟩) NB215_203.out _).trans (((cell_far (p := ⟨gb203, _, none⟩) NB215_203.out _).trans (((cell_far (p := ⟨gb203, _, none⟩) NB215_203.out _).trans (hHeld.2.1)))))), ((cell_far (p := ⟨gb203, _, none⟩) NB215_203.out _).trans (((cell_far (p := ⟨gb203, _, none⟩) NB215_203.out _).trans (((cell_far (p := ⟨gb203, _, none⟩) NB215_203.out _).trans (hHeld.2.2))))))⟩ (fun hHeld => ?_)
clear hK K
refine one_ (i := 5) (N := some 17) (bm 8 127) rfl rfl (one_of HT_.out (by kernel_rfl)) (by decide) (fun K hK => ?_)
have hcv26 := own_string (P := Try.prog) Try.underlying22 Try.underlying5 Try.underlying9 (Kd.own_of_R (Kd.R_far (p := ⟨gb203, 2, none⟩) (Kd.R_far (p := ⟨gb203, 1, none⟩) (Kd.R_far (p := ⟨gb203, 0, none⟩) (Kd.R_types HO224.out BK203.out (by decide)) (fun _ hk => hk.2) (.int .i64 t208)) (fun _ hk => hk.2) (.slice Ao17 t209.length co17)) (fun _ hk => hk.2) (.int .i64 t212)))
refine value_ (w1 := ?_) (v := ?_) (by rfl) rfl ?_ ?_
rotate_left 2
·(
go_simp
constructor
·rfl
·rfl
)
clear hcv26
refine hK.out _ _ hHeld (fun hHeld => ?_)
clear hK K
refine norm_ (a' := _) (show Act.put _ (some 17) _ = _ from na) ?_
exact norm_ nz0 (hCont (v223) _ ⟨hHeld, (by (with_reducible repeat (first | apply Kd.Q_alloc | apply Kd.Q_drewN | apply Kd.Q_drew)); exact Kd.Q_mono (Kd.Q_far (p := ⟨gb203, 2, none⟩) (Kd.Q_far (p := ⟨gb203, 1, none⟩) (Kd.Q_far (p := ⟨gb203, 0, none⟩) (Kd.Q_types HO211.out BK203.out (by decide)) (fun _ hk => hk.2) (.int .i64 t208)) (fun _ hk => hk.2) (.slice Ao17 t209.length co17)) (fun _ hk => hk.2) (.int .i64 t212)) (fun _ hk => trivial)), (by (with_reducible repeat (first | apply r1 | apply r2 | apply r3)); exact Kd.R_mono (Kd.R_far (p := ⟨gb203, 2, none⟩) (Kd.R_far (p := ⟨gb203, 1, none⟩) (Kd.R_far (p := ⟨gb203, 0, none⟩) (Kd.R_types HO224.out BK203.out (by decide)) (fun _ hk => hk.2) (.int .i64 t208)) (fun _ hk => hk.2) (.slice Ao17 t209.length co17)) (fun _ hk => hk.2) (.int .i64 t212)) (fun _ hk => trivial)), (rp_0_1_2 BK203), (rf3 NB215_203 BK215), (by repeat (first | (with_reducible first | exact HI207.out | apply IsS118.alloc | apply IsS118.drewN | apply IsS118.drew | apply IsS118.set_1 | apply IsS118.set_2 | refine IsS118.far ?_ NB207_203.out _ | refine IsS118.far ?_ NB207_215.out _) | exact HI207.out)), (by repeat (first | (with_reducible first | exact HB.out | apply b1 | apply b2 | apply b3 | refine below_set ?_ (IsS118.ge HI207.out) | refine below_set ?_ GE203.out | refine below_set ?_ GE215.out) | exact HB.out))⟩)
)
)
·(
skip
have hs21 : w20.cell? ⟨gb203, 0, none⟩ = some (.int .i64 0) := (blk_cell BK203.out 0).trans rfl
have hfs21 := blk_frozen BK203.out 0
have hns21_1 := NB215_203.out
have hms21_1 := NB203_215.out
have hs22 : w20.cell? ⟨gb203, 1, none⟩ = some (.slice none 0 0) := (blk_cell BK203.out 1).trans rfl
have hfs22 := blk_frozen BK203.out 1
have hns22_1 := NB215_203.out
have hms22_1 := NB203_215.out
have hs23 : w20.cell? ⟨gb203, 2, none⟩ = some (.int .i64 0) := (blk_cell BK203.out 2).trans rfl
have hfs23 := blk_frozen BK203.out 2
have hns23_1 := NB215_203.out
have hms23_1 := NB203_215.out
refine skip_ (w1 := ?_) (by rfl) rfl ?_ ?_
rotate_left
·(
go_simp
rfl
)
refine hK.out _ _ ⟨((cell_far (p := ⟨gb203, _, none⟩) NB215_203.out _).trans (((cell_far (p := ⟨gb203, _, none⟩) NB215_203.out _).trans (((cell_far (p := ⟨gb203, _, none⟩) NB215_203.out _).trans (hHeld.1)))))), ((cell_far (p := ⟨gb203, _, none⟩) NB215_203.out _).trans (((cell_far (p := ⟨gb203, _, none⟩) NB215_203.out _).trans (((cell_far (p := ⟨gb203, _, none⟩) NB215_203.out _).trans (hHeld.2.1)))))), ((cell_far (p := ⟨gb203, _, none⟩) NB215_203.out _).trans (((cell_far (p := ⟨gb203, _, none⟩) NB215_203.out _).trans (((cell_far (p := ⟨gb203, _, none⟩) NB215_203.out _).trans (hHeld.2.2))))))⟩ (fun hHeld => ?_)
clear hK K
refine one_ (i := 4) (N := some 16) (bm 8 95) rfl rfl (one_of HT_.out (by kernel_rfl)) (by decide) (fun K hK => ?_)
refine Kd.R_make_step (Kd.int .u8) _ 5 (by rfl) (N := 16) rfl 22 _ _ rfl ji7 rfl rfl Try.underlying22 (.int .u8 0) 1 info5 rfl (by decide) (by omega) 0 (ok := fun _ => True) (okp := fun _ => True) rfl (fun _ hk => hk) trivial dt_ (Nat.le_trans (Nat.mul_le_mul_right _ (dt_ : ji7.toNat ≤ 281474976710656)) (by omega)) (Below.refl _ _) (Nat.le_refl _) ?_
intro v223 w24 ho25 hb hg_ hnew_
clear hg_ hnew_
(first | rw [← Ny222.out] at ho25 | (simp only [Int.reduceToNat] at ho25; rw [← Ny222.out] at ho25))
replace HO211 := am (Kd.Q_below (Qf3 HO211 BK203) hb)
have HO224 := am (Kd.R_lower ho25 (below_size (by repeat (first | (with_reducible first | exact HB.out | apply b1 | apply b2 | apply b3 | refine below_set ?_ (IsS118.ge HI207.out) | refine below_set ?_ GE203.out | refine below_set ?_ GE215.out) | exact HB.out))))
replace BK203 := am (blk_below (g := gb203) (o := .cells #[.int .i64 t208, .slice Ao17 t209.length co17, .int .i64 t212] 26 (0, 0)) (rp_0_1_2 BK203) hb)
replace BK215 := am (blk_below (g := gb215) (o := .cells #[.int .i64 t208, .slice Ao17 t209.length co17, .int .i64 t212] 26 (0, 0)) (rf3 NB215_203 BK215) hb)
replace HB := am (below_step (by repeat (first | (with_reducible first | exact HB.out | apply b1 | apply b2 | apply b3 | refine below_set ?_ (IsS118.ge HI207.out) | refine below_set ?_ GE203.out | refine below_set ?_ GE215.out) | exact HB.out)) hb)
replace HI207 := am (IsS118.below (show IsS118 w (((w20.setCell ⟨gb203, 0, none⟩ (.int .i64 t208)).setCell ⟨gb203, 1, none⟩ (.slice Ao17 t209.length co17)).setCell ⟨gb203, 2, none⟩ (.int .i64 t212)) g207 t204 t220 t221 from by repeat (first | (with_reducible first | exact HI207.out | apply IsS118.alloc | apply IsS118.drewN | apply IsS118.drew | apply IsS118.set_1 | apply IsS118.set_2 | refine IsS118.far ?_ NB207_203.out _ | refine IsS118.far ?_ NB207_215.out _) | exact HI207.out)) hb)
clear hb ho25
refine hK.out _ _ (bc3 BK215) (fun hHeld => ?_)
clear hK K
refine norm_ (a' := _) (show Act.put _ (some 16) _ = _ from na) ?_
refine one_ (i := 5) (N := some 17) (bm 8 127) rfl rfl (one_of HT_.out (by kernel_rfl)) (by decide) (fun K hK => ?_)
have hcv26 := own_string (P := Try.prog) Try.underlying22 Try.underlying5 Try.underlying9 (Kd.own_of_R HO224.out)
refine value_ (w1 := ?_) (v := ?_) (by rfl) rfl ?_ ?_
rotate_left 2
·(
go_simp
constructor
·rfl
·rfl
)
clear hcv26
refine hK.out _ _ (bc3 BK215) (fun hHeld => ?_)
clear hK K
refine norm_ (a' := _) (show Act.put _ (some 17) _ = _ from na) ?_
exact norm_ nz0 (hCont (v223) _ ⟨hHeld, (rq HO211), (rr HO224), (rk BK203), (rk BK215), (by repeat (first | (with_reducible first | exact HI207.out | apply IsS118.alloc | apply IsS118.drewN | apply IsS118.drew | apply IsS118.set_1 | apply IsS118.set_2 | refine IsS118.far ?_ NB207_203.out _ | refine IsS118.far ?_ NB207_215.out _) | exact HI207.out)), (by repeat (first | (with_reducible first | exact HB.out | apply b1 | apply b2 | apply b3 | refine below_set ?_ (IsS118.ge HI207.out) | refine below_set ?_ GE203.out | refine below_set ?_ GE215.out) | exact HB.out))⟩)
)
)
rintro v223 w27 ⟨hHeld, h0_, h1_, h2_, h3_, h4_, h5_⟩
(try dsimp only at hHeld h0_ h1_ h2_ h3_ h4_ h5_)
replace HO211 := am h0_; have HO224 := am h1_; replace BK203 := am h2_; replace BK215 := am h3_; replace HI207 := am h4_; replace HB := am h5_
clear h0_ h1_ h2_ h3_ h4_ h5_
refine norm_ (a' := _) nr ?_
refine pu_ 7 3 (bm 8 255) HT_.out ?_
refine done_ (done_of HT_.out (by kernel_rfl)) ?_
try go_wp2
refine bodyPost_ret (results_ct rfl _ _ gb203 26 #[.int .i64 t208, .slice Ao17 t209.length co17, .int .i64 t212] (0, 0) _ rfl (rk BK203) Try.underlying26 rfl (by kernel_rfl)) rfl ?_
exact ⟨_, by first | rfl | (simp [errW_none, errW_some] <;> rfl) | (simp only [← hji7]; first | rfl | (simp [errW_none, errW_some] <;> rfl)) | (simp [*, errW_none, errW_some] <;> rfl), by (with_reducible repeat (first | apply Kd.Q_alloc | apply Kd.Q_drewN | apply Kd.Q_drew)); exact HO211.out, by repeat (first | (with_reducible first | exact HB.out | apply b1 | apply b2 | apply b3 | refine below_set ?_ (IsS118.ge HI207.out) | refine below_set ?_ GE203.out | refine below_set ?_ GE215.out) | exact HB.out)⟩
)
| (
have q_ := lf2_
refine start_ (n := 8) (S := fun w' => True) (ds := []) (bm 8 0) (by kernel_rfl) rfl rfl trivial (fun hHeld => ?_); refine with_tabW spec_DrawKeep.tab5 spec_DrawKeep.bits5 (fun HT_ HW_ => ?_)
generalize w39.drew = w40 at HO211 BK203 BK215 HI207 HB hHeld ⊢
refine pu_ 2 20 (bm 8 4) HT_.out ?_
refine inv_at [0, 1, 3, 4, 5, 6, 7] (fun a0_ b a w' => ∃ (v226 : Value) (adz_v226 : Addr) (m4_ : Value), a = putSel a0_ b [(0, 18, .agg #[.int .i64 t208, .slice Ao17 t209.length co17, .int .i64 t212]), (1, 19, v226), (3, 21, .int .i64 t228), (4, 22, m4_), (5, 23, .string (rdOf ByteArray.empty y225 t228)), (7, 3, .string (rdOf ByteArray.empty y225 t228))] ∧ (Kd.Q Kd.string 9 w' w.heap.size (fun _ => True) (.slice Ao17 t209.length co17) t209) ∧ (b 6 = false → w'.heap[gb203]? = some (.cells #[.int .i64 0, .slice none 0 0, .int .i64 0] 26 (0, 0))) ∧ (w'.heap[gb215]? = some (.cells #[.int .i64 t208, .slice Ao17 t209.length co17, .int .i64 t212] 26 (0, 0))) ∧ (b 3 = false → IsS118 w w' g207 t204 t217 t218) ∧ (Below w.heap.size w w') ∧ (b 1 = true → Kd.R Kd.string 9 w' w.heap.size (fun k_ => some k_ ≠ (.slice Ao17 t209.length co17 : Value).ownBlock) v226 y225) ∧ (b 1 = true → ∃ c_, (v226 : Value) = .slice (some adz_v226) y225.length c_) ∧ (b 3 = true → IsS118 w w' g207 t204 t229 t230) ∧ (b 6 = true → w'.heap[gb203]? = some (.cells #[.int .i64 t208, .slice Ao17 t209.length co17, .int .i64 t212] 26 (0, 0))) ∧ (b 4 = true → (m4_ : Value) = .pointer (some (adz_v226.add (t228).toNat)))) HT_.out HW_.out (by kernel_rfl) (by kernel_rfl) ?_ ?_ ?_
·exact ⟨.bool false, ⟨0, 0, none⟩, .bool false, by simp only [putSel, Bool.false_eq_true, if_false], HO211.out, fun _ => BK203.out, BK215.out, fun _ => HI207.out, HB.out, fun h_ => absurd h_ (by decide), fun h_ => absurd h_ (by decide), fun h_ => absurd h_ (by decide), fun h_ => absurd h_ (by decide), fun h_ => absurd h_ (by decide)⟩
·(
skip
clear BK203 BK215 HB HI207 HO211
refine steps_cons ?_ ?_
·(
rintro b a w' ⟨v226, adz_v226, m4_, ha, Q_HO211, Q_BK203, Q_BK215, Q_HI207, Q_HB, Q_HO227, Q_HA_HO227, Q_HI207_e3, Q_BK203_e6, Q_X4_⟩ hb_ hon hoff
refine ⟨_, rfl, fun K hK => ?_⟩
have e5 : a.tmps[5]? = some (.pointer (some ⟨gb215, 0, none⟩)) := by rw [ha]; exact (putSel_off rfl).trans rfl
replace ha := am ha
have HO211 := am Q_HO211
have BK203 := am (Q_BK203 (hoff 6 (by kernel_rfl)))
have BK215 := am Q_BK215
have HB := am Q_HB
have hc0_ : w'.cell? ⟨gb215, 0, none⟩ = some (.int .i64 t208) := (blk_cell BK215.out 0).trans rfl
have hc1_ : w'.cell? ⟨gb215, 1, none⟩ = some (.slice Ao17 t209.length co17) := (blk_cell BK215.out 1).trans rfl
have hc2_ : w'.cell? ⟨gb215, 2, none⟩ = some (.int .i64 t212) := (blk_cell BK215.out 2).trans rfl
refine value_ (w1 := w') (v := .agg #[.int .i64 t208, .slice Ao17 t209.length co17, .int .i64 t212]) (by rfl) rfl ?_ ?_
·(
go_simp
(try simp only [i64_w])
try rfl
)
refine hK.out _ _ ⟨v226, adz_v226, m4_, (by rw [ha.out]; exact putSel_upk 0 hb_ rfl rfl rfl), Q_HO211, Q_BK203, Q_BK215, Q_HI207, Q_HB, Q_HO227, Q_HA_HO227, Q_HI207_e3, fun h0_ => absurd ((hoff 6 (by kernel_rfl)).symm.trans h0_) (by decide), Q_X4_⟩
)
refine steps_cons ?_ ?_
·(
rintro b a w' ⟨v226, adz_v226, m4_, ha, Q_HO211, Q_BK203, Q_BK215, Q_HI207, Q_HB, Q_HO227, Q_HA_HO227, Q_HI207_e3, Q_BK203_e6, Q_X4_⟩ hb_ hon hoff
refine ⟨_, rfl, fun K hK => ?_⟩
replace ha := am ha
have HO211 := am Q_HO211
have BK215 := am Q_BK215
have HB := am Q_HB
refine Kd.R_lit_step Kd.string _ 9 ?hg (N := 19) ?hd (xs := ([(⟨#[97, 98, 97, 98]⟩ : ByteArray), (⟨#[110, 101, 119]⟩ : ByteArray)] : List ByteArray)) (inner := [.string (⟨#[97, 98, 97, 98]⟩ : ByteArray), .string (⟨#[110, 101, 119]⟩ : ByteArray)]) (ok := fun _ => True) (okp := fun _ => True) ?hr ?hp (fun _ hk => hk) trivial (Below.refl _ _) (Nat.le_refl _) (by simp) ?_; (case hd => rfl); (case hg => rfl); (case hr => first | (go_simp; done) | (go_simp; rfl)); (case hp => exact (Reps.one (show Kd.M Kd.string _ _ _ (⟨#[97, 98, 97, 98]⟩ : ByteArray) [.string (⟨#[97, 98, 97, 98]⟩ : ByteArray)] from rfl) (Reps.one (show Kd.M Kd.string _ _ _ (⟨#[110, 101, 119]⟩ : ByteArray) [.string (⟨#[110, 101, 119]⟩ : ByteArray)] from rfl) (Reps.none _ _))))
intro v226 w41 ho42 hb hg_ hnew_
clear hg_ hnew_
(first | rw [← Ny225.out] at ho42 | (simp only [Int.reduceToNat] at ho42; rw [← Ny225.out] at ho42))
have n0_ := am (Kd.Q_elder' (rq HO211) (Kd.R_base ho42) hb)
have n1_ := am (Kd.R_lower (Kd.R_new' ho42 (Kd.Q_lt (rq HO211))) (below_size (rb2 HB GE203 GE215)))
have n4_ := am (blk_below (rk BK215) hb)
have n5_ := am (below_step (rb2 HB GE203 GE215) hb)
have z_BK203 := fun (h0_ : b 6 = false) => (show w41.heap[gb203]? = some (.cells #[.int .i64 0, .slice none 0 0, .int .i64 0] 26 (0, 0)) from by first | exact (blk_below (g := gb203) (o := .cells #[.int .i64 0, .slice none 0 0, .int .i64 0] 26 (0, 0)) (by (with_reducible repeat (first | apply k1 | apply k2 | apply k3)); exact (Q_BK203 h0_)) hb))
have z_HI207 := fun (h0_ : b 3 = false) => (show IsS118 w w41 g207 t204 t217 t218 from by first | exact (IsS118.below (by repeat (first | (with_reducible first | exact (Q_HI207 h0_) | apply IsS118.alloc | apply IsS118.drewN | apply IsS118.drew | apply IsS118.set_1 | apply IsS118.set_2 | refine IsS118.far ?_ NB207_203.out _ | refine IsS118.far ?_ NB207_215.out _) | exact (Q_HI207 h0_))) hb))
have z_HI207_e3 := fun (h0_ : b 3 = true) => (show IsS118 w w41 g207 t204 t229 t230 from by first | exact (IsS118.below (by repeat (first | (with_reducible first | exact (Q_HI207_e3 h0_) | apply IsS118.alloc | apply IsS118.drewN | apply IsS118.drew | apply IsS118.set_1 | apply IsS118.set_2 | refine IsS118.far ?_ NB207_203.out _ | refine IsS118.far ?_ NB207_215.out _) | exact (Q_HI207_e3 h0_))) hb))
have z_BK203_e6 := fun (h0_ : b 6 = true) => (show w41.heap[gb203]? = some (.cells #[.int .i64 t208, .slice Ao17 t209.length co17, .int .i64 t212] 26 (0, 0)) from by first | exact (blk_below (g := gb203) (o := .cells #[.int .i64 t208, .slice Ao17 t209.length co17, .int .i64 t212] 26 (0, 0)) (by (with_reducible repeat (first | apply k1 | apply k2 | apply k3)); exact (Q_BK203_e6 h0_)) hb))
clear HO211
clear BK215
clear HB
have HO211 := n0_
have HO227 := n1_
have BK215 := n4_
have HB := n5_
clear n0_ n1_ n4_ n5_
clear hb ho42
obtain ⟨Ao43, co43, eo43⟩ := Kd.R_slice HO227.out
subst eo43
obtain ⟨ado43, fo43, _⟩ := Kd.at_string (Kd.R_reads' HO227.out).2.2 0 (by decide) (by rw [Ny225.out]; simp)
cases fo43
refine hK.out _ _ ⟨.slice (some ado43) y225.length co43, ado43, m4_, (by rw [ha.out]; exact putSel_upk 1 hb_ rfl rfl rfl), (by (with_reducible repeat (first | apply Kd.Q_alloc | apply Kd.Q_drewN | apply Kd.Q_drew)); exact Kd.Q_mono HO211.out (fun _ hk => by first | exact hk.2 | trivial)), z_BK203, (rk BK215), z_HI207, (rb2 HB GE203 GE215), fun _ => (rrm HO227), fun _ => ⟨_, rfl⟩, z_HI207_e3, z_BK203_e6, fun h0_ => absurd ((hoff 4 (by kernel_rfl)).symm.trans h0_) (by decide)⟩
)
refine steps_cons ?_ ?_
·(
rintro b a w' ⟨v226, adz_v226, m4_, ha, Q_HO211, Q_BK203, Q_BK215, Q_HI207, Q_HB, Q_HO227, Q_HA_HO227, Q_HI207_e3, Q_BK203_e6, Q_X4_⟩ hb_ hon hoff
refine ⟨_, rfl, fun K hK => ?_⟩
have e20 : a.tmps[20]? = some (.pointer (some ⟨g207, 0, none⟩)) := by rw [ha]; exact (putSel_off rfl).trans rfl
replace ha := am ha
have HO211 := am Q_HO211
have BK203 := am (Q_BK203 (hoff 6 (by kernel_rfl)))
have BK215 := am Q_BK215
have HI207 := am (Q_HI207 hb_)
have HB := am Q_HB
refine goes_ Try.func52 (by kernel_rfl) rfl #[.pointer (some ⟨g207, 0, none⟩), .int .i64 2] (by rfl) rfl rfl (by first | (simp only [List.map_toArray, List.map_cons, List.map_nil, Act.eval, Array.getD_eq_getD_getElem?, Option.getD_some, e20]; done) | (simp only [List.map_toArray, List.map_cons, List.map_nil, Act.eval, Array.getD_eq_getD_getElem?, Option.getD_some, e20]; rfl)) ?_
with_reducible refine (spec_l1Below.calls g207 t204 t217 t218 2 t228 t229 t230 w _ ?side1 ?side2 A28.out).mono ?_
(case side1 => repeat (first | (with_reducible first | exact HI207.out | apply IsS118.alloc | apply IsS118.drewN | apply IsS118.drew | apply IsS118.set_1 | apply IsS118.set_2 | refine IsS118.far ?_ NB207_203.out _ | refine IsS118.far ?_ NB207_215.out _) | exact HI207.out))
(case side2 => repeat (first | (with_reducible first | exact HB.out | apply b1 | apply b2 | apply b3 | refine below_set ?_ (IsS118.ge HI207.out) | refine below_set ?_ GE203.out | refine below_set ?_ GE215.out) | exact HB.out))
rintro e w41 ⟨rfl, hi, hb, hk⟩
refine ⟨_, rfl, ?_⟩
have n0_ := am (KeepBut.blk hk (g' := gb203) (o := .cells #[.int .i64 0, .slice none 0 0, .int .i64 0] 26 (0, 0)) (rk BK203) NB203_207.out (by simp))
have n1_ := am (Kd.Q_mono (Kd.Q_keep (IsS118.apartQ (show IsS118 w _ g207 t204 t217 t218 from by repeat (first | (with_reducible first | exact HI207.out | apply IsS118.alloc | apply IsS118.drewN | apply IsS118.drew | apply IsS118.set_1 | apply IsS118.set_2 | refine IsS118.far ?_ NB207_203.out _ | refine IsS118.far ?_ NB207_215.out _) | exact HI207.out)) (rq HO211) (by decide)) hk (fun _ h => h.2)) (fun _ h => h.1))
have n2_ := am (KeepBut.blk hk (g' := gb215) (o := .cells #[.int .i64 t208, .slice Ao17 t209.length co17, .int .i64 t212] 26 (0, 0)) (rk BK215) NB215_207.out (by simp))
have n3_ := am (hb)
have n4_ := am (hi)
have z_HO227 := fun (h0_ : b 1 = true) => (show Kd.R Kd.string 9 w41 w.heap.size (fun k_ => some k_ ≠ (.slice Ao17 t209.length co17 : Value).ownBlock) v226 y225 from by first | exact (Kd.R_mono (Kd.R_keep (IsS118.apart (show IsS118 w _ g207 t204 t217 t218 from by repeat (first | (with_reducible first | exact HI207.out | apply IsS118.alloc | apply IsS118.drewN | apply IsS118.drew | apply IsS118.set_1 | apply IsS118.set_2 | refine IsS118.far ?_ NB207_203.out _ | refine IsS118.far ?_ NB207_215.out _) | exact HI207.out)) (by (with_reducible repeat (first | apply r1 | apply r2 | apply r3)); exact (Q_HO227 h0_)) (by decide)) hk (fun _ h => h.2)) (fun _ h => h.1)) | exact Kd.R_mono (Kd.R_mono (Kd.R_keep (IsS118.apart (show IsS118 w _ g207 t204 t217 t218 from by repeat (first | (with_reducible first | exact HI207.out | apply IsS118.alloc | apply IsS118.drewN | apply IsS118.drew | apply IsS118.set_1 | apply IsS118.set_2 | refine IsS118.far ?_ NB207_203.out _ | refine IsS118.far ?_ NB207_215.out _) | exact HI207.out)) (by (with_reducible repeat (first | apply r1 | apply r2 | apply r3)); exact (Q_HO227 h0_)) (by decide)) hk (fun _ h => h.2)) (fun _ h => h.1)) (fun _ h_ => by first | trivial | exact h_ | exact h_.1))
clear BK203
clear HO211
clear BK215
clear HB
clear HI207
have BK203 := n0_
have HO211 := n1_
have BK215 := n2_
have HB := n3_
have HI207 := n4_
clear n0_ n1_ n2_ n3_ n4_
(try clear hb)
(try clear hk)
(try clear hi)
refine hK.out _ _ ⟨v226, adz_v226, m4_, (by rw [ha.out]; exact putSel_upk 2 hb_ rfl rfl rfl), (rq HO211), fun _ => (rk BK203), (rk BK215), fun h0_ => absurd ((up_self b 3).symm.trans h0_) (by decide), (by repeat (first | (with_reducible first | exact HB.out | apply b1 | apply b2 | apply b3 | refine below_set ?_ (IsS118.ge HI207.out) | refine below_set ?_ GE203.out | refine below_set ?_ GE215.out) | exact HB.out)), z_HO227, Q_HA_HO227, fun _ => (by repeat (first | (with_reducible first | exact HI207.out | apply IsS118.alloc | apply IsS118.drewN | apply IsS118.drew | apply IsS118.set_1 | apply IsS118.set_2 | refine IsS118.far ?_ NB207_203.out _ | refine IsS118.far ?_ NB207_215.out _) | exact HI207.out)), fun h0_ => absurd ((hoff 6 (by kernel_rfl)).symm.trans h0_) (by decide), fun h0_ => absurd ((hoff 4 (by kernel_rfl)).symm.trans h0_) (by decide)⟩
)
refine steps_cons ?_ ?_
·(
rintro b a w' ⟨v226, adz_v226, m4_, ha, Q_HO211, Q_BK203, Q_BK215, Q_HI207, Q_HB, Q_HO227, Q_HA_HO227, Q_HI207_e3, Q_BK203_e6, Q_X4_⟩ hb_ hon hoff
refine ⟨_, rfl, fun K hK => ?_⟩
have e19 : a.tmps[19]? = some (v226) := by rw [ha]; exact putSel_on (e := (1, 19, v226)) 1 rfl rfl (hon 1 (by kernel_rfl)) rfl
have e21 : a.tmps[21]? = some (.int .i64 t228) := by rw [ha]; exact putSel_on (e := (3, 21, .int .i64 t228)) 2 rfl rfl (hon 3 (by kernel_rfl)) rfl
replace ha := am ha
have HO211 := am Q_HO211
have BK215 := am Q_BK215
have HB := am Q_HB
have HO227 := am (Q_HO227 (hon 1 (by kernel_rfl)))
have HA_HO227 := am (Q_HA_HO227 (hon 1 (by kernel_rfl)))
have HI207 := am (Q_HI207_e3 (hon 3 (by kernel_rfl)))
obtain ⟨c_, hv_⟩ := HA_HO227.out
rw [hv_] at e19
refine value_ (w1 := w') (v := .pointer (some (adz_v226.add (t228).toNat))) (by rfl) rfl ?_ ?_
·(
go_simp
(try simp only [i64_w])
try rfl
)
refine hK.out _ _ ⟨v226, adz_v226, (.pointer (some (adz_v226.add (t228).toNat))), (by rw [ha.out]; exact putSel_upk 3 hb_ rfl rfl rfl), Q_HO211, Q_BK203, Q_BK215, fun h0_ => absurd ((hon 3 (by kernel_rfl)).symm.trans h0_) (by decide), Q_HB, Q_HO227, Q_HA_HO227, Q_HI207_e3, Q_BK203_e6, fun _ => rfl⟩
)
refine steps_cons ?_ ?_
·(
rintro b a w' ⟨v226, adz_v226, m4_, ha, Q_HO211, Q_BK203, Q_BK215, Q_HI207, Q_HB, Q_HO227, Q_HA_HO227, Q_HI207_e3, Q_BK203_e6, Q_X4_⟩ hb_ hon hoff
refine ⟨_, rfl, fun K hK => ?_⟩
have e22 : a.tmps[22]? = some (m4_) := by rw [ha]; exact putSel_on (e := (4, 22, m4_)) 3 rfl rfl (hon 4 (by kernel_rfl)) rfl
rw [Q_X4_ (hon 4 (by kernel_rfl))] at e22
replace ha := am ha
have HO211 := am Q_HO211
have BK215 := am Q_BK215
have HB := am Q_HB
have HO227 := am (Q_HO227 (hon 1 (by kernel_rfl)))
have HA_HO227 := am (Q_HA_HO227 (hon 1 (by kernel_rfl)))
have HI207 := am (Q_HI207_e3 (hon 3 (by kernel_rfl)))
obtain ⟨c_, hv_⟩ := HA_HO227.out
have hF_ := HO227.out
rw [hv_] at hF_
obtain ⟨ad_, ea_, hx_⟩ := Kd.at_string (Kd.R_reads' hF_).2.2 t228 (of_eq_true pi231) (of_eq_true qi231)
cases ea_
refine value_ (w1 := w') (v := .string (rdOf ByteArray.empty y225 t228)) (by rfl) rfl ?_ ?_
·(
go_simp
(try simp only [i64_w])
try rfl
)
refine hK.out _ _ ⟨v226, adz_v226, m4_, (by rw [ha.out]; exact putSel_upk 4 hb_ rfl rfl rfl), Q_HO211, Q_BK203, Q_BK215, fun h0_ => absurd ((hon 3 (by kernel_rfl)).symm.trans h0_) (by decide), Q_HB, Q_HO227, Q_HA_HO227, Q_HI207_e3, Q_BK203_e6, Q_X4_⟩
)
refine steps_cons ?_ ?_
·(
rintro b a w' ⟨v226, adz_v226, m4_, ha, Q_HO211, Q_BK203, Q_BK215, Q_HI207, Q_HB, Q_HO227, Q_HA_HO227, Q_HI207_e3, Q_BK203_e6, Q_X4_⟩ hb_ hon hoff
refine ⟨_, rfl, fun K hK => ?_⟩
have e2 : a.tmps[2]? = some (.pointer (some ⟨gb203, 0, none⟩)) := by rw [ha]; exact (putSel_off rfl).trans rfl
have e18 : a.tmps[18]? = some (.agg #[.int .i64 t208, .slice Ao17 t209.length co17, .int .i64 t212]) := by rw [ha]; exact putSel_on (e := (0, 18, .agg #[.int .i64 t208, .slice Ao17 t209.length co17, .int .i64 t212])) 0 rfl rfl (hon 0 (by kernel_rfl)) rfl
replace ha := am ha
have HO211 := am Q_HO211
have BK203 := am (Q_BK203 hb_)
have BK215 := am Q_BK215
have HB := am Q_HB
have HI207 := am (Q_HI207_e3 (hon 3 (by kernel_rfl)))
have hs43 : w'.cell? ⟨gb203, 0, none⟩ = some (.int .i64 0) := (blk_cell BK203.out 0).trans rfl
have hfs43 := blk_frozen BK203.out 0
have hns43_1 := NB215_203.out
have hms43_1 := NB203_215.out
have hs44 : w'.cell? ⟨gb203, 1, none⟩ = some (.slice none 0 0) := (blk_cell BK203.out 1).trans rfl
have hfs44 := blk_frozen BK203.out 1
have hns44_1 := NB215_203.out
have hms44_1 := NB203_215.out
have hs45 : w'.cell? ⟨gb203, 2, none⟩ = some (.int .i64 0) := (blk_cell BK203.out 2).trans rfl
have hfs45 := blk_frozen BK203.out 2
have hns45_1 := NB215_203.out
have hms45_1 := NB203_215.out
refine skip_ (w1 := ?_) (by rfl) rfl ?_ ?_
rotate_left
·(
go_simp
rfl
)
refine hK.out _ _ ⟨v226, adz_v226, m4_, (by rw [ha.out]; exact putSel_none (v := undef) rfl), (by (with_reducible repeat (first | apply Kd.Q_alloc | apply Kd.Q_drewN | apply Kd.Q_drew)); exact Kd.Q_mono (Kd.Q_far (p := ⟨gb203, 2, none⟩) (Kd.Q_far (p := ⟨gb203, 1, none⟩) (Kd.Q_far (p := ⟨gb203, 0, none⟩) (Kd.Q_types HO211.out BK203.out (by decide)) (fun _ hk => hk.2) (.int .i64 t208)) (fun _ hk => hk.2) (.slice Ao17 t209.length co17)) (fun _ hk => hk.2) (.int .i64 t212)) (fun _ hk => trivial)), fun h0_ => absurd ((up_self b 6).symm.trans h0_) (by decide), (rf3 NB215_203 BK215), fun h0_ => absurd ((hon 3 (by kernel_rfl)).symm.trans h0_) (by decide), (by repeat (first | (with_reducible first | exact HB.out | apply b1 | apply b2 | apply b3 | refine below_set ?_ (IsS118.ge HI207.out) | refine below_set ?_ GE203.out | refine below_set ?_ GE215.out) | exact HB.out)), fun h0_ => (by (with_reducible repeat (first | apply r1 | apply r2 | apply r3)); exact Kd.R_mono (Kd.R_far (p := ⟨gb203, 2, none⟩) (Kd.R_far (p := ⟨gb203, 1, none⟩) (Kd.R_far (p := ⟨gb203, 0, none⟩) (Kd.R_types (Q_HO227 h0_) BK203.out (by decide)) (fun _ hk => hk.2) (.int .i64 t208)) (fun _ hk => hk.2) (.slice Ao17 t209.length co17)) (fun _ hk => hk.2) (.int .i64 t212)) (fun _ hk => hk.1)), Q_HA_HO227, fun _ => (by repeat (first | (with_reducible first | exact HI207.out | apply IsS118.alloc | apply IsS118.drewN | apply IsS118.drew | apply IsS118.set_1 | apply IsS118.set_2 | refine IsS118.far ?_ NB207_203.out _ | refine IsS118.far ?_ NB207_215.out _) | exact HI207.out)), fun _ => (rp_0_1_2 BK203), Q_X4_⟩
)
refine steps_cons ?_ ?_
·(
rintro b a w' ⟨v226, adz_v226, m4_, ha, Q_HO211, Q_BK203, Q_BK215, Q_HI207, Q_HB, Q_HO227, Q_HA_HO227, Q_HI207_e3, Q_BK203_e6, Q_X4_⟩ hb_ hon hoff
refine ⟨_, rfl, fun K hK => ?_⟩
have e23 : a.tmps[23]? = some (.string (rdOf ByteArray.empty y225 t228)) := by rw [ha]; exact putSel_on (e := (5, 23, .string (rdOf ByteArray.empty y225 t228))) 4 rfl rfl (hon 5 (by kernel_rfl)) rfl
replace ha := am ha
have HO211 := am Q_HO211
have BK215 := am Q_BK215
have HB := am Q_HB
have HO227 := am (Q_HO227 (hon 1 (by kernel_rfl)))
have HA_HO227 := am (Q_HA_HO227 (hon 1 (by kernel_rfl)))
have HI207 := am (Q_HI207_e3 (hon 3 (by kernel_rfl)))
have BK203 := am (Q_BK203_e6 (hon 6 (by kernel_rfl)))
refine value_ (w1 := w') (v := .string (rdOf ByteArray.empty y225 t228)) (by rfl) rfl ?_ ?_
·(
go_simp
(try simp only [i64_w])
try rfl
)
refine hK.out _ _ ⟨v226, adz_v226, m4_, (by rw [ha.out]; exact putSel_upk 5 hb_ rfl rfl rfl), Q_HO211, fun h0_ => absurd ((hon 6 (by kernel_rfl)).symm.trans h0_) (by decide), Q_BK215, fun h0_ => absurd ((hon 3 (by kernel_rfl)).symm.trans h0_) (by decide), Q_HB, Q_HO227, Q_HA_HO227, Q_HI207_e3, Q_BK203_e6, Q_X4_⟩
)
exact steps_nil
)
rintro b a w48 hall ⟨v226, adz_v226, m4_, ha, Q_HO211, Q_BK203, Q_BK215, Q_HI207, Q_HB, Q_HO227, Q_HA_HO227, Q_HI207_e3, Q_BK203_e6, Q_X4_⟩
clear BK203 BK215 HB HI207 HO211
have hb0_ := hall 0 (by kernel_rfl)
have hb1_ := hall 1 (by kernel_rfl)
have hb3_ := hall 3 (by kernel_rfl)
have hb4_ := hall 4 (by kernel_rfl)
have hb5_ := hall 5 (by kernel_rfl)
have hb6_ := hall 6 (by kernel_rfl)
have hb7_ := hall 7 (by kernel_rfl)
subst ha
obtain rfl := Q_X4_ hb4_
simp only [putSel, hb0_, hb1_, hb3_, hb4_, hb5_, hb6_, hb7_, if_true, Act.put, List.setIfInBounds_toArray, List.set_cons_zero, List.set_cons_succ]
have HO211 := am Q_HO211
clear Q_HO211
clear Q_BK203
have BK215 := am Q_BK215
clear Q_BK215
clear Q_HI207
have HB := am Q_HB
clear Q_HB
have HO227 := am (Q_HO227 hb1_)
clear Q_HO227
have HA_HO227 := am (Q_HA_HO227 hb1_)
clear Q_HA_HO227
have HI207 := am (Q_HI207_e3 hb3_)
clear Q_HI207_e3
have BK203 := am (Q_BK203_e6 hb6_)
clear Q_BK203_e6
clear hall hb0_ hb1_ hb3_ hb4_ hb5_ hb6_ hb7_
obtain ⟨co49, eo49⟩ := HA_HO227.out
clear HA_HO227
subst eo49
try go_wp2
refine bodyPost_ret (results_ct rfl _ _ gb203 26 #[.int .i64 t208, .slice Ao17 t209.length co17, .int .i64 t212] (0, 0) _ rfl (rk BK203) Try.underlying26 rfl (by kernel_rfl)) rfl ?_
exact ⟨_, by first | rfl | (simp [errW_none, errW_some] <;> rfl) | (simp [*, errW_none, errW_some] <;> rfl), by (with_reducible repeat (first | apply Kd.Q_alloc | apply Kd.Q_drewN | apply Kd.Q_drew)); exact Kd.Q_mono HO211.out (fun _ hk => trivial), by repeat (first | (with_reducible first | exact HB.out | apply b1 | apply b2 | apply b3 | refine below_set ?_ (IsS118.ge HI207.out) | refine below_set ?_ GE203.out | refine below_set ?_ GE215.out) | exact HB.out)⟩
)
)
)

end Go.Proofs.Ytalopdcephohgaa.RA
