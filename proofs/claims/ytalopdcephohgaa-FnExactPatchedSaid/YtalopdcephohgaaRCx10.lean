/- Contracts of Go functions that laws of this seat reach: each Lean function answers as its Go function does. No condition. Written by wip/tools/inj.py, over the kit's print. -/
import Derived.Test.YtalopdcephohgaaRCx0
import Derived.Test.YtalopdcephohgaaRCx2
import Derived.Test.YtalopdcephohgaaRCx9
namespace Go.Proofs.Ytalopdcephohgaa.RC
open Go.RowKit Go.Proofs.YtalopdcephohgaaW.PrintWords Go.Proofs.YtalopdcephohgaaW.PrintLast Go.Proofs.YtalopdcephohgaaW.PrintMore
attribute [local go_sem] max2_int min2_int max_two min_two max_three min_three max_four min_four   -- for this text's walks alone
set_option linter.unusedVariables false
set_option linter.unusedSimpArgs false

/-! ### laws_markPatch: function 37 -/
def laws_markPatch.f (k : Nat) (a0_0 : Int) (a0_1 : Int) (l0_2 : List S101) (a1 : Int) : Option (Int × List S101) := (laws_markChangeS.f k l0_2 a1).bind fun bt => some (bt.1, bt.2)
theorem laws_markPatch.mono : ∀ a0 a1 a2 a3 k, LeO (laws_markPatch.f k a0 a1 a2 a3) (laws_markPatch.f (k + 1) a0 a1 a2 a3) := by
 intro a0 a1 a2 a3 k
 unfold laws_markPatch.f
 exact LeO.bind (laws_markChangeS.mono _ _ _) (fun _ => LeO.refl _)
set_option maxHeartbeats 8000000 in
set_option maxRecDepth 100000 in
theorem laws_markPatch.calls (k : Nat) (a0_0 : Int) (a0_1 : Int) (P0_2_ : Nat → Prop) (u9000_ : Value) (l0_2 : List S101) (a1 : Int) (r1 : Int) (r2 : List S101) (w0 w : World) (hB : Below w0.heap.size w0 w) (ho0_2 : Kd.S k101 101 w w0.heap.size P0_2_ u9000_ l0_2) (h : laws_markPatch.f k a0_0 a0_1 l0_2 a1 = some (r1, r2)) :
  Calls Try.prog 37 #[.agg #[.int .i64 a0_0, .int .i64 a0_1, u9000_], .int .i64 a1] w fun e w' => e = .returned (.int .i64 r1) ∧ Kd.S k101 101 w' w0.heap.size P0_2_ u9000_ r2 ∧ Below w0.heap.size w0 w' ∧ Kept w w' (fun k_ => P0_2_ k_) := by
 (
have huG := Try.underlying53
obtain ⟨A0, c0, eu⟩ := Kd.S_slice ho0_2
subst eu
have HO := am ho0_2
have HK := am (Kept.refl w (fun k_ => P0_2_ k_))
have HB := am hB
clear hB ho0_2
obtain ⟨⟨t1, t2⟩, A1, H⟩ := Option.bind_eq_some_iff.mp h
have A1' := am A1
simp only [Option.some.injEq, Prod.mk.injEq] at H
obtain ⟨rfl, rfl⟩ := H
clear h A1
go_enter Try.func37, Try.ntmps37
go_wp2_with (first | ((with_reducible refine gate_dst (N := 2) rfl ?_); refine box_event ?hg (N := 2) ?hd (cs := #[.int .i64 a0_0, .int .i64 a0_1, .slice A0 l0_2.length c0]) (t := 53) ?hr ?_; (case hd => rfl); (case hg => rfl); (case hr => first | (go_simp; done) | (go_simp; rfl)); intro gb hg w5 hbox hb; replace HO := am (Kd.S_below HO.out hb); replace HK := am (Kept.below (S := (fun k_ => P0_2_ k_)) HK.out hb); replace HB := am (below_step HB.out hb); have hz0 : w5.cell? ⟨gb, 0, none⟩ = some (.int .i64 a0_0) := (blk_cell hbox 0).trans rfl; have hz1 : w5.cell? ⟨gb, 1, none⟩ = some (.int .i64 a0_1) := (blk_cell hbox 1).trans rfl; have hz2 : w5.cell? ⟨gb, 2, none⟩ = some (.slice A0 l0_2.length c0) := (blk_cell hbox 2).trans rfl; clear hb hbox hg) | ((with_reducible refine gate_callee (f := 77) rfl ?_); refine goesL_ (some 8) rfl rfl Try.func77 (by kernel_rfl) rfl #[.slice A0 l0_2.length c0, .int .i64 a1] rfl (by (try simp only [List.map_toArray, List.map_cons, List.map_nil]); first | done | rfl) ?_; (with_reducible refine (laws_markChangeS.calls k P0_2_ (.slice A0 l0_2.length c0) l0_2 a1 t1 t2 w0 _ HB.out HO.out A1'.out).mono ?_); rintro e w7 ⟨rfl, hy0, hb, hkp⟩; refine ⟨_, rfl, ?_⟩; have n0_ := am hy0; have n1_ := am (Kept.then_ (S := (fun k_ => P0_2_ k_)) HK.out hkp (fun k_ hs_ => .inl hs_)); have n2_ := am hb; clear HO HK HB; have HO := n0_; have HK := n1_; have HB := n2_; clear n0_ n1_ n2_ hy0 hb hkp))
go_ret
exact ⟨rfl, HO.out, HB.out, HK.out⟩
)

/-! ### laws_szChange: function 110 -/
def laws_szChange.f (a0_0 : Int) (a0_1 : Int) (l0_2 : List (S151)) (a1 : Int) : Option (Int) := (laws_szCellS.f l0_2 a1).bind fun t173 => (if t173 < 0 then (some (-1)) else (some t173))
set_option maxHeartbeats 8000000 in
set_option maxRecDepth 100000 in
theorem laws_szChange.calls (a0_0 : Int) (a0_1 : Int) (A0_2 : Option Addr) (c0_2 : Nat) (l0_2 : List (S151)) (a1 : Int) (r : Int) (w : World) (hr0_2 : Kd.C k151 w A0_2 l0_2.length l0_2) (hc0_2 : l0_2.length ≤ c0_2) (h : laws_szChange.f a0_0 a0_1 l0_2 a1 = some r) :
  Calls Try.prog 110 #[.agg #[.int .i64 a0_0, .int .i64 a0_1, .slice A0_2 l0_2.length c0_2], .int .i64 a1] w fun e w' => e = .returned (.int .i64 r) ∧ Below w.heap.size w w' := by
 (
have hu137 := Try.underlying137
have HR0_2 := am hr0_2
have HC0_2 := am hc0_2
clear hr0_2 hc0_2
have HB := am (Below.refl w.heap.size w)
have H : ((laws_szCellS.f l0_2 a1).bind fun t173 => (if t173 < 0 then (some (-1)) else (some t173))) = some r := h
clear h
replace H := Option.bind_eq_some_iff.mp H
obtain ⟨t173, A30, H⟩ := H
(try dsimp only at H)
have A3 := am A30
clear A30
by_cases c4 : t173 < 0
·(
rw [if_pos c4] at H
have c4b0 : decide (t173 < 0) = true := decide_eq_true c4
clear c4
obtain rfl := Option.some.inj H
go_enter Try.func110, Try.ntmps110
go_wp2_with (first | ((with_reducible refine gate_dst (N := 2) rfl ?_); refine box_event ?hg (N := 2) ?hd (cs := #[.int .i64 a0_0, .int .i64 a0_1, .slice A0_2 l0_2.length c0_2]) (t := 137) ?hr ?_; (case hd => rfl); (case hg => rfl); (case hr => first | (go_simp; done) | (go_simp; rfl)); intro gb172 hg w5 hbox hb; have BK172 := am (hbox); have GW172 := am (gw hg (rb HB)); have GE172 := GW172; replace HB := am (below_step (rb HB) hb); clear hb hbox hg; have hcz6_0 : w5.cell? ⟨gb172, 0, none⟩ = some (.int .i64 a0_0) := (blk_cell BK172.out 0).trans rfl; have hcz6_1 : w5.cell? ⟨gb172, 1, none⟩ = some (.int .i64 a0_1) := (blk_cell BK172.out 1).trans rfl; have hcz6_2 : w5.cell? ⟨gb172, 2, none⟩ = some (.slice A0_2 l0_2.length c0_2) := (blk_cell BK172.out 2).trans rfl; have hfz6_0 := blk_frozen BK172.out 0; have hfz6_1 := blk_frozen BK172.out 1; have hfz6_2 := blk_frozen BK172.out 2) | ((with_reducible refine gate_callee (f := 95) rfl ?_); refine gl_ (some 8) Try.func95 #[.slice A0_2 l0_2.length c0_2, .int .i64 a1] ?_; (with_reducible refine (laws_szCellS.calls _ _ l0_2 a1 t173 _ ?side1 ?side2 A3.out).mono ?_); (case side1 => exact rc ((Kd.C_below HR0_2.out HB.out))); (case side2 => exact HC0_2.out); rintro e w' ⟨rfl, ⟨nd, rfl⟩⟩; refine ⟨_, rfl, ?_⟩))
go_ret
exact ⟨by first | rfl | (simp [errW_none, errW_some] <;> rfl) | (simp [*, errW_none, errW_some] <;> rfl), by repeat (first | (with_reducible first | exact HB.out | apply b1 | apply b2 | apply b3 | refine below_set ?_ GE172.out) | exact HB.out)⟩
)
·(
rw [if_neg c4] at H
have c4b0 : decide (t173 < 0) = false := decide_eq_false c4
clear c4
obtain rfl := Option.some.inj H
go_enter Try.func110, Try.ntmps110
go_wp2_with (first | ((with_reducible refine gate_dst (N := 2) rfl ?_); refine box_event ?hg (N := 2) ?hd (cs := #[.int .i64 a0_0, .int .i64 a0_1, .slice A0_2 l0_2.length c0_2]) (t := 137) ?hr ?_; (case hd => rfl); (case hg => rfl); (case hr => first | (go_simp; done) | (go_simp; rfl)); intro gb172 hg w7 hbox hb; have BK172 := am (hbox); have GW172 := am (gw hg (rb HB)); have GE172 := GW172; replace HB := am (below_step (rb HB) hb); clear hb hbox hg; have hcz8_0 : w7.cell? ⟨gb172, 0, none⟩ = some (.int .i64 a0_0) := (blk_cell BK172.out 0).trans rfl; have hcz8_1 : w7.cell? ⟨gb172, 1, none⟩ = some (.int .i64 a0_1) := (blk_cell BK172.out 1).trans rfl; have hcz8_2 : w7.cell? ⟨gb172, 2, none⟩ = some (.slice A0_2 l0_2.length c0_2) := (blk_cell BK172.out 2).trans rfl; have hfz8_0 := blk_frozen BK172.out 0; have hfz8_1 := blk_frozen BK172.out 1; have hfz8_2 := blk_frozen BK172.out 2) | ((with_reducible refine gate_callee (f := 95) rfl ?_); refine gl_ (some 8) Try.func95 #[.slice A0_2 l0_2.length c0_2, .int .i64 a1] ?_; (with_reducible refine (laws_szCellS.calls _ _ l0_2 a1 t173 _ ?side1 ?side2 A3.out).mono ?_); (case side1 => exact rc ((Kd.C_below HR0_2.out HB.out))); (case side2 => exact HC0_2.out); rintro e w' ⟨rfl, ⟨nd, rfl⟩⟩; refine ⟨_, rfl, ?_⟩))
go_ret
exact ⟨by first | rfl | (simp [errW_none, errW_some] <;> rfl) | (simp [*, errW_none, errW_some] <;> rfl), by repeat (first | (with_reducible first | exact HB.out | apply b1 | apply b2 | apply b3 | refine below_set ?_ GE172.out) | exact HB.out)⟩
)
)

/-! ### laws_szChangeS: function 79 -/
def laws_szChangeS.l0 : Nat → List (S137) → Int → Int → Option (Int)
 | 0, _, _, _ => none
 | k + 1, x0, x1, x5 => if x5 < (x0.length : Int) then (if 0 ≤ x5 then ((laws_szChange.f ((rd_T137 x0 x5).f0) ((rd_T137 x0 x5).f1) ((rd_T137 x0 x5).f2) x1).bind fun t175 => (if t175 < 0 then (some (-1)) else (laws_szChangeS.l0 k x0 t175 (wrap64 (x5 + 1))))) else (none)) else (some x1)
def laws_szChangeS.f (k : Nat) (l0 : List (S137)) (a1 : Int) : Option (Int) := if (wrap64 (a1 - (l0.length : Int))) < 0 then (some (-1)) else (laws_szChangeS.l0 k l0 (wrap64 (a1 - (l0.length : Int))) 0)
theorem laws_szChangeS.mono_l : ∀ k, (∀ y0 y1 y2, LeO (laws_szChangeS.l0 k y0 y1 y2) (laws_szChangeS.l0 (k + 1) y0 y1 y2))
 | 0 => fun _ _ _ r h => by simp [laws_szChangeS.l0] at h
 | k + 1 => by
  have ih0 := laws_szChangeS.mono_l k
  ·intro y0 y1 y2
   unfold laws_szChangeS.l0
   repeat' first
   | (with_reducible exact ih0 _ _ _)
   | (with_reducible exact LeO.refl _)
   | (with_reducible exact LeO.none _)
   | (with_reducible refine LeO.ite ?_ ?_)
   | (with_reducible refine LeO.bind ?_ (fun _ => ?_))
theorem laws_szChangeS.mono : ∀ a0 a1 k, LeO (laws_szChangeS.f k a0 a1) (laws_szChangeS.f (k + 1) a0 a1) := by
 intro a0 a1 k
 have ih0 := laws_szChangeS.mono_l k
 unfold laws_szChangeS.f
 repeat' first
   | (with_reducible exact ih0 _ _ _)
   | (with_reducible exact LeO.refl _)
   | (with_reducible exact LeO.none _)
   | (with_reducible refine LeO.ite ?_ ?_)
   | (with_reducible refine LeO.bind ?_ (fun _ => ?_))
set_option maxHeartbeats 8000000 in
set_option maxRecDepth 100000 in
theorem laws_szChangeS.calls (k : Nat) (A0 : Option Addr) (c0 : Nat) (l0 : List (S137)) (a1 : Int) (r : Int) (w : World) (hr0 : Kd.C k137 w A0 l0.length l0) (hc0 : l0.length ≤ c0) (h : laws_szChangeS.f k l0 a1 = some r) :
  Calls Try.prog 79 #[.slice A0 l0.length c0, .int .i64 a1] w fun e w' => e = .returned (.int .i64 r) ∧ Below w.heap.size w w' := by
 (
have hu137 := Try.underlying137
have HR0 := am hr0
have HC0 := am hc0
clear hr0 hc0
have HB := am (Below.refl w.heap.size w)
have H := h
unfold laws_szChangeS.f at H
clear h
by_cases c3 : (wrap64 (a1 - (l0.length : Int))) < 0
·(
rw [if_pos c3] at H
have c3b0 : decide ((wrap64 (a1 - (l0.length : Int))) < 0) = true := decide_eq_true c3
clear c3
obtain rfl := Option.some.inj H
go_enter Try.func79, Try.ntmps79
go_wp2
go_ret
exact ⟨by first | rfl | (simp [errW_none, errW_some] <;> rfl) | (simp [*, errW_none, errW_some] <;> rfl), by repeat (first | (with_reducible first | exact HB.out | apply b1 | apply b2 | apply b3) | exact HB.out)⟩
)
·(
rw [if_neg c3] at H
have c3b0 : decide ((wrap64 (a1 - (l0.length : Int))) < 0) = false := decide_eq_false c3
clear c3
have H' := am H
clear H
go_enter Try.func79, Try.ntmps79
go_wp2
go_loopg [1, 5] k (fun kq v1 v5 w' => ∃ (x1_1 : Int) (x5_1 : Int), v1 = .int .i64 x1_1 ∧ v5 = .int .i64 x5_1 ∧ Aside0 (laws_szChangeS.l0 kq l0 x1_1 x5_1 = some r) ∧ Aside0 (kq ≤ k) ∧ Aside0 (Below w.heap.size w w'))
case atStart => exact ⟨(wrap64 (a1 - (l0.length : Int))), (0), (by first | rfl | (simp; done) | (simp [*]; done)), (by first | rfl | (simp; done) | (simp [*]; done)), H', ⟨Nat.le_refl _⟩, ⟨rb HB⟩⟩
case round => (
clear H'
try clear p2
try clear c3
try clear c3b0
obtain ⟨x1_1, x5_1, rfl, rfl, HA, HK1, HB⟩ := hrel
cases gk with
| zero => exact absurd HA.out (by simp [laws_szChangeS.l0])
| succ k1 => (
have H := HA.out
clear HA
simp only [laws_szChangeS.l0] at H
by_cases c4 : x5_1 < (l0.length : Int)
·(
rw [if_pos c4] at H
have c4b0 : decide (x5_1 < (l0.length : Int)) = true := decide_eq_true c4
clear c4
by_cases c5 : 0 ≤ x5_1
·(
rw [if_pos c5] at H
have c5b0 : decide (0 ≤ x5_1) = true := decide_eq_true c5
clear c5
replace H := Option.bind_eq_some_iff.mp H
obtain ⟨t175, A60, H⟩ := H
(try dsimp only at H)
have A6 := am A60
clear A60
by_cases c7 : t175 < 0
·(
rw [if_pos c7] at H
have c7b0 : decide (t175 < 0) = true := decide_eq_true c7
clear c7
obtain rfl := Option.some.inj H
have p174 : 0 ≤ (x5_1 : Int) := dt_
have q174 : x5_1 < (l0.length : Int) := dt_
obtain ⟨ad174, A174_2, c174_2, e174, hx174_0, hx174_1, hx174_2, hl174_2, hi174_2⟩ := at_T137 HR0.out x5_1 p174 q174
cases e174
replace hx174_0 := mv HB.out hx174_0
replace hx174_1 := mv HB.out hx174_1
replace hx174_2 := mv HB.out hx174_2
have HR174_2 := am hi174_2
have HC174_2 := am hl174_2
clear hi174_2 hl174_2
replace p174 := eq_true p174
replace q174 := eq_true q174
go_wp2_with (first | ((with_reducible refine gate_callee (f := 110) rfl ?_); refine gl_ (some 23) Try.func110 #[.agg #[.int .i64 ((rd_T137 l0 x5_1).f0), .int .i64 ((rd_T137 l0 x5_1).f1), .slice A174_2 ((rd_T137 l0 x5_1).f2).length c174_2], .int .i64 x1_1] ?_; (with_reducible refine (laws_szChange.calls ((rd_T137 l0 x5_1).f0) ((rd_T137 l0 x5_1).f1) _ _ ((rd_T137 l0 x5_1).f2) x1_1 t175 _ ?side1 ?side2 A6.out).mono ?_); (case side1 => exact rc ((Kd.C_below HR174_2.out HB.out))); (case side2 => exact HC174_2.out); rintro e w8 ⟨rfl, hb⟩; refine ⟨_, rfl, ?_⟩; replace HB := am (below_step (rb HB) hb); (try clear hb); (try clear hb2); (try clear hk); (try clear hi)))
go_ret
exact ⟨by first | rfl | (simp [errW_none, errW_some] <;> rfl) | (simp [*, errW_none, errW_some] <;> rfl), by repeat (first | (with_reducible first | exact HB.out | apply b1 | apply b2 | apply b3) | exact HB.out)⟩
)
·(
rw [if_neg c7] at H
have c7b0 : decide (t175 < 0) = false := decide_eq_false c7
clear c7
have H' := am H
clear H
have p174 : 0 ≤ (x5_1 : Int) := dt_
have q174 : x5_1 < (l0.length : Int) := dt_
obtain ⟨ad174, A174_2, c174_2, e174, hx174_0, hx174_1, hx174_2, hl174_2, hi174_2⟩ := at_T137 HR0.out x5_1 p174 q174
cases e174
replace hx174_0 := mv HB.out hx174_0
replace hx174_1 := mv HB.out hx174_1
replace hx174_2 := mv HB.out hx174_2
have HR174_2 := am hi174_2
have HC174_2 := am hl174_2
clear hi174_2 hl174_2
replace p174 := eq_true p174
replace q174 := eq_true q174
go_wp2_with (first | ((with_reducible refine gate_callee (f := 110) rfl ?_); refine gl_ (some 23) Try.func110 #[.agg #[.int .i64 ((rd_T137 l0 x5_1).f0), .int .i64 ((rd_T137 l0 x5_1).f1), .slice A174_2 ((rd_T137 l0 x5_1).f2).length c174_2], .int .i64 x1_1] ?_; (with_reducible refine (laws_szChange.calls ((rd_T137 l0 x5_1).f0) ((rd_T137 l0 x5_1).f1) _ _ ((rd_T137 l0 x5_1).f2) x1_1 t175 _ ?side1 ?side2 A6.out).mono ?_); (case side1 => exact rc ((Kd.C_below HR174_2.out HB.out))); (case side2 => exact HC174_2.out); rintro e w9 ⟨rfl, hb⟩; refine ⟨_, rfl, ?_⟩; replace HB := am (below_step (rb HB) hb); (try clear hb); (try clear hb2); (try clear hk); (try clear hi)))
go_roundg k1
case measure => have := HK1.out; omega
case rel => exact ⟨(t175), (wrap64 (x5_1 + 1)), (by first | rfl | (simp; done) | (simp [*]; done)), (by first | rfl | (simp; done) | (simp [*]; done)), H', ⟨by have := HK1.out; omega⟩, ⟨rb HB⟩⟩
)
)
·(
rw [if_neg c5] at H
exact absurd H (by simp)
)
)
·(
rw [if_neg c4] at H
have c4b0 : decide (x5_1 < (l0.length : Int)) = false := decide_eq_false c4
clear c4
obtain rfl := Option.some.inj H
go_wp2
go_ret
exact ⟨by first | rfl | (simp [errW_none, errW_some] <;> rfl) | (simp [*, errW_none, errW_some] <;> rfl), by repeat (first | (with_reducible first | exact HB.out | apply b1 | apply b2 | apply b3) | exact HB.out)⟩
)
)
)
)
)

/-! ### laws_szPatch: function 39 -/
def laws_szPatch.f (k : Nat) (a0_0 : Int) (a0_1 : Int) (l0_2 : List (S137)) (a1 : Int) : Option (Int) := (laws_szChangeS.f k l0_2 a1).bind fun t177 => (if t177 < 0 then (some (-1)) else (some t177))
theorem laws_szPatch.mono : ∀ a0 a1 a2 a3 k, LeO (laws_szPatch.f k a0 a1 a2 a3) (laws_szPatch.f (k + 1) a0 a1 a2 a3) := by
 intro a0 a1 a2 a3 k
 unfold laws_szPatch.f
 repeat' first
   | (with_reducible exact laws_szChangeS.mono _ _ _)
   | (with_reducible exact LeO.refl _)
   | (with_reducible exact LeO.none _)
   | (with_reducible refine LeO.ite ?_ ?_)
   | (with_reducible refine LeO.bind ?_ (fun _ => ?_))
set_option maxHeartbeats 8000000 in
set_option maxRecDepth 100000 in
theorem laws_szPatch.calls (k : Nat) (a0_0 : Int) (a0_1 : Int) (A0_2 : Option Addr) (c0_2 : Nat) (l0_2 : List (S137)) (a1 : Int) (r : Int) (w : World) (hr0_2 : Kd.C k137 w A0_2 l0_2.length l0_2) (hc0_2 : l0_2.length ≤ c0_2) (h : laws_szPatch.f k a0_0 a0_1 l0_2 a1 = some r) :
  Calls Try.prog 39 #[.agg #[.int .i64 a0_0, .int .i64 a0_1, .slice A0_2 l0_2.length c0_2], .int .i64 a1] w fun e w' => e = .returned (.int .i64 r) ∧ Below w.heap.size w w' := by
 (
have hu67 := Try.underlying67
have HR0_2 := am hr0_2
have HC0_2 := am hc0_2
clear hr0_2 hc0_2
have HB := am (Below.refl w.heap.size w)
have H : ((laws_szChangeS.f k l0_2 a1).bind fun t177 => (if t177 < 0 then (some (-1)) else (some t177))) = some r := h
clear h
replace H := Option.bind_eq_some_iff.mp H
obtain ⟨t177, A30, H⟩ := H
(try dsimp only at H)
have A3 := am A30
clear A30
by_cases c4 : t177 < 0
·(
rw [if_pos c4] at H
have c4b0 : decide (t177 < 0) = true := decide_eq_true c4
clear c4
obtain rfl := Option.some.inj H
go_enter Try.func39, Try.ntmps39
go_wp2_with (first | ((with_reducible refine gate_dst (N := 2) rfl ?_); refine box_event ?hg (N := 2) ?hd (cs := #[.int .i64 a0_0, .int .i64 a0_1, .slice A0_2 l0_2.length c0_2]) (t := 67) ?hr ?_; (case hd => rfl); (case hg => rfl); (case hr => first | (go_simp; done) | (go_simp; rfl)); intro gb176 hg w5 hbox hb; have BK176 := am (hbox); have GW176 := am (gw hg (rb HB)); have GE176 := GW176; replace HB := am (below_step (rb HB) hb); clear hb hbox hg; have hcz6_0 : w5.cell? ⟨gb176, 0, none⟩ = some (.int .i64 a0_0) := (blk_cell BK176.out 0).trans rfl; have hcz6_1 : w5.cell? ⟨gb176, 1, none⟩ = some (.int .i64 a0_1) := (blk_cell BK176.out 1).trans rfl; have hcz6_2 : w5.cell? ⟨gb176, 2, none⟩ = some (.slice A0_2 l0_2.length c0_2) := (blk_cell BK176.out 2).trans rfl; have hfz6_0 := blk_frozen BK176.out 0; have hfz6_1 := blk_frozen BK176.out 1; have hfz6_2 := blk_frozen BK176.out 2) | ((with_reducible refine gate_callee (f := 79) rfl ?_); refine gl_ (some 8) Try.func79 #[.slice A0_2 l0_2.length c0_2, .int .i64 a1] ?_; (with_reducible refine (laws_szChangeS.calls k _ _ l0_2 a1 t177 _ ?side1 ?side2 A3.out).mono ?_); (case side1 => exact rc ((Kd.C_below HR0_2.out HB.out))); (case side2 => exact HC0_2.out); rintro e w7 ⟨rfl, hb⟩; refine ⟨_, rfl, ?_⟩; replace BK176 := am (blk_below (rk BK176) hb); replace HB := am (below_step (rb1 HB GE176) hb); (try clear hb); (try clear hb2); (try clear hk); (try clear hi)))
go_ret
exact ⟨by first | rfl | (simp [errW_none, errW_some] <;> rfl) | (simp [*, errW_none, errW_some] <;> rfl), by repeat (first | (with_reducible first | exact HB.out | apply b1 | apply b2 | apply b3 | refine below_set ?_ GE176.out) | exact HB.out)⟩
)
·(
rw [if_neg c4] at H
have c4b0 : decide (t177 < 0) = false := decide_eq_false c4
clear c4
obtain rfl := Option.some.inj H
go_enter Try.func39, Try.ntmps39
go_wp2_with (first | ((with_reducible refine gate_dst (N := 2) rfl ?_); refine box_event ?hg (N := 2) ?hd (cs := #[.int .i64 a0_0, .int .i64 a0_1, .slice A0_2 l0_2.length c0_2]) (t := 67) ?hr ?_; (case hd => rfl); (case hg => rfl); (case hr => first | (go_simp; done) | (go_simp; rfl)); intro gb176 hg w8 hbox hb; have BK176 := am (hbox); have GW176 := am (gw hg (rb HB)); have GE176 := GW176; replace HB := am (below_step (rb HB) hb); clear hb hbox hg; have hcz9_0 : w8.cell? ⟨gb176, 0, none⟩ = some (.int .i64 a0_0) := (blk_cell BK176.out 0).trans rfl; have hcz9_1 : w8.cell? ⟨gb176, 1, none⟩ = some (.int .i64 a0_1) := (blk_cell BK176.out 1).trans rfl; have hcz9_2 : w8.cell? ⟨gb176, 2, none⟩ = some (.slice A0_2 l0_2.length c0_2) := (blk_cell BK176.out 2).trans rfl; have hfz9_0 := blk_frozen BK176.out 0; have hfz9_1 := blk_frozen BK176.out 1; have hfz9_2 := blk_frozen BK176.out 2) | ((with_reducible refine gate_callee (f := 79) rfl ?_); refine gl_ (some 8) Try.func79 #[.slice A0_2 l0_2.length c0_2, .int .i64 a1] ?_; (with_reducible refine (laws_szChangeS.calls k _ _ l0_2 a1 t177 _ ?side1 ?side2 A3.out).mono ?_); (case side1 => exact rc ((Kd.C_below HR0_2.out HB.out))); (case side2 => exact HC0_2.out); rintro e w10 ⟨rfl, hb⟩; refine ⟨_, rfl, ?_⟩; replace BK176 := am (blk_below (rk BK176) hb); replace HB := am (below_step (rb1 HB GE176) hb); (try clear hb); (try clear hb2); (try clear hk); (try clear hi)))
go_ret
exact ⟨by first | rfl | (simp [errW_none, errW_some] <;> rfl) | (simp [*, errW_none, errW_some] <;> rfl), by repeat (first | (with_reducible first | exact HB.out | apply b1 | apply b2 | apply b3 | refine below_set ?_ GE176.out) | exact HB.out)⟩
)
)

/-! ### spec_l1In: function 60 -/
def spec_l1In.f (a0 : Int) (a1 : Int) (a2 : Int) : Option (Bool) := if a0 ≥ a1 then (some (decide (a0 ≤ a2))) else (some false)
set_option maxHeartbeats 8000000 in
set_option maxRecDepth 100000 in
theorem spec_l1In.calls (a0 : Int) (a1 : Int) (a2 : Int) (r : Bool) (w : World) (h : spec_l1In.f a0 a1 a2 = some r) :
  Calls Try.prog 60 #[.int .i64 a0, .int .i64 a1, .int .i64 a2] w fun e w' => e = .returned (.bool r) ∧ Drawn0 w w' := by
 (
have H : (if a0 ≥ a1 then (some (decide (a0 ≤ a2))) else (some false)) = some r := h
clear h
by_cases c4 : a0 ≥ a1
·(
rw [if_pos c4] at H
have c4b0 : decide (a1 ≤ a0) = true := decide_eq_true c4
clear c4
obtain rfl := Option.some.inj H
go_enter Try.func60, Try.ntmps60
go_wp2
go_ret
exact ⟨by first | rfl | (simp; done) | (simp [*]; done), by repeat (first | exact Drawn0.refl _ | apply Drawn0.step)⟩
)
·(
rw [if_neg c4] at H
have c4b0 : decide (a1 ≤ a0) = false := decide_eq_false c4
clear c4
obtain rfl := Option.some.inj H
go_enter Try.func60, Try.ntmps60
go_wp2
go_ret
exact ⟨by first | rfl | (simp; done) | (simp [*]; done), by repeat (first | exact Drawn0.refl _ | apply Drawn0.step)⟩
)
)

/-! ### spec_StyleOk: function 119 -/
def spec_StyleOk.f (a0_0 : Int) (a0_1 : Int) (a0_2 : Bool) (a0_3 : Bool) (a0_4 : Bool) : Option (Bool) := (spec_l1In.f a0_0 0 8).bind fun t179 => (if t179 = true then ((spec_l1In.f a0_1 0 8).bind fun t180 => (some t180)) else (some false))
set_option maxHeartbeats 8000000 in
set_option maxRecDepth 100000 in
theorem spec_StyleOk.calls (a0_0 : Int) (a0_1 : Int) (a0_2 : Bool) (a0_3 : Bool) (a0_4 : Bool) (r : Bool) (w : World) (h : spec_StyleOk.f a0_0 a0_1 a0_2 a0_3 a0_4 = some r) :
  Calls Try.prog 119 #[.agg #[.int .i64 a0_0, .int .i64 a0_1, .bool a0_2, .bool a0_3, .bool a0_4]] w fun e w' => e = .returned (.bool r) ∧ Below w.heap.size w w' := by
 (
have hu96 := Try.underlying96
have HB := am (Below.refl w.heap.size w)
have H := h
unfold spec_StyleOk.f at H
clear h
replace H := Option.bind_eq_some_iff.mp H
obtain ⟨t179, A20, H⟩ := H
(try dsimp only at H)
have A2 := am A20
clear A20
by_cases c3 : t179 = true
·(
subst c3
have H1 : ((spec_l1In.f a0_1 0 8).bind fun t180 => (some t180)) = some r := by rw [if_pos rfl] at H; exact H
clear H
have H := H1
clear H1
replace H := Option.bind_eq_some_iff.mp H
obtain ⟨t180, A40, H⟩ := H
replace H : (some t180) = some r := H
have A4 := am A40
clear A40
obtain rfl := Option.some.inj H
go_enter Try.func119, Try.ntmps119
go_wp2_with (first | ((with_reducible refine gate_dst (N := 1) rfl ?_); refine box_event ?hg (N := 1) ?hd (cs := #[.int .i64 a0_0, .int .i64 a0_1, .bool a0_2, .bool a0_3, .bool a0_4]) (t := 96) ?hr ?_; (case hd => rfl); (case hg => rfl); (case hr => first | (go_simp; done) | (go_simp; rfl)); intro gb178 hg w5 hbox hb; have BK178 := am (hbox); have GW178 := am (gw hg (rb HB)); have GE178 := GW178; replace HB := am (below_step (rb HB) hb); clear hb hbox hg; have hcz6_0 : w5.cell? ⟨gb178, 0, none⟩ = some (.int .i64 a0_0) := (blk_cell BK178.out 0).trans rfl; have hcz6_1 : w5.cell? ⟨gb178, 1, none⟩ = some (.int .i64 a0_1) := (blk_cell BK178.out 1).trans rfl; have hcz6_2 : w5.cell? ⟨gb178, 2, none⟩ = some (.bool a0_2) := (blk_cell BK178.out 2).trans rfl; have hcz6_3 : w5.cell? ⟨gb178, 3, none⟩ = some (.bool a0_3) := (blk_cell BK178.out 3).trans rfl; have hcz6_4 : w5.cell? ⟨gb178, 4, none⟩ = some (.bool a0_4) := (blk_cell BK178.out 4).trans rfl; have hfz6_0 := blk_frozen BK178.out 0; have hfz6_1 := blk_frozen BK178.out 1; have hfz6_2 := blk_frozen BK178.out 2; have hfz6_3 := blk_frozen BK178.out 3; have hfz6_4 := blk_frozen BK178.out 4) | ((with_reducible refine gate_callee (f := 60) rfl ?_); refine gl_ (some 5) Try.func60 #[.int .i64 a0_0, .int .i64 0, .int .i64 8] ?_; (with_reducible refine (spec_l1In.calls a0_0 0 8 true _ A2.out).mono ?_); rintro e w' ⟨rfl, ⟨nd, rfl⟩⟩; refine ⟨_, rfl, ?_⟩) | (go_at_call 60; (with_reducible refine (spec_l1In.calls a0_1 0 8 t180 _ A4.out).mono ?_); rintro e w' ⟨rfl, ⟨nd, rfl⟩⟩))
go_ret
exact ⟨by first | rfl | (simp [errW_none, errW_some] <;> rfl) | (simp [*, errW_none, errW_some] <;> rfl), by repeat (first | (with_reducible first | exact HB.out | apply b1 | apply b2 | apply b3 | refine below_set ?_ GE178.out) | exact HB.out)⟩
)
·(
replace c3 := Bool.eq_false_iff.mpr c3
subst c3
have H1 : (some false) = some r := by rw [if_neg (show ¬ (false = true) by decide)] at H; exact H
clear H
have H := H1
clear H1
obtain rfl := Option.some.inj H
go_enter Try.func119, Try.ntmps119
go_wp2_with (first | ((with_reducible refine gate_dst (N := 1) rfl ?_); refine box_event ?hg (N := 1) ?hd (cs := #[.int .i64 a0_0, .int .i64 a0_1, .bool a0_2, .bool a0_3, .bool a0_4]) (t := 96) ?hr ?_; (case hd => rfl); (case hg => rfl); (case hr => first | (go_simp; done) | (go_simp; rfl)); intro gb178 hg w7 hbox hb; have BK178 := am (hbox); have GW178 := am (gw hg (rb HB)); have GE178 := GW178; replace HB := am (below_step (rb HB) hb); clear hb hbox hg; have hcz8_0 : w7.cell? ⟨gb178, 0, none⟩ = some (.int .i64 a0_0) := (blk_cell BK178.out 0).trans rfl; have hcz8_1 : w7.cell? ⟨gb178, 1, none⟩ = some (.int .i64 a0_1) := (blk_cell BK178.out 1).trans rfl; have hcz8_2 : w7.cell? ⟨gb178, 2, none⟩ = some (.bool a0_2) := (blk_cell BK178.out 2).trans rfl; have hcz8_3 : w7.cell? ⟨gb178, 3, none⟩ = some (.bool a0_3) := (blk_cell BK178.out 3).trans rfl; have hcz8_4 : w7.cell? ⟨gb178, 4, none⟩ = some (.bool a0_4) := (blk_cell BK178.out 4).trans rfl; have hfz8_0 := blk_frozen BK178.out 0; have hfz8_1 := blk_frozen BK178.out 1; have hfz8_2 := blk_frozen BK178.out 2; have hfz8_3 := blk_frozen BK178.out 3; have hfz8_4 := blk_frozen BK178.out 4) | ((with_reducible refine gate_callee (f := 60) rfl ?_); refine gl_ (some 5) Try.func60 #[.int .i64 a0_0, .int .i64 0, .int .i64 8] ?_; (with_reducible refine (spec_l1In.calls a0_0 0 8 false _ A2.out).mono ?_); rintro e w' ⟨rfl, ⟨nd, rfl⟩⟩; refine ⟨_, rfl, ?_⟩))
go_ret
exact ⟨by first | rfl | (simp [errW_none, errW_some] <;> rfl) | (simp [*, errW_none, errW_some] <;> rfl), by repeat (first | (with_reducible first | exact HB.out | apply b1 | apply b2 | apply b3 | refine below_set ?_ GE178.out) | exact HB.out)⟩
)
)

/-! ### spec_RuneOk: function 135 -/
def spec_RuneOk.f (a0 : Int) : Option (Bool) := (spec_l1In.f a0 0 1114111).bind fun t181 => (if t181 = true then ((spec_l1In.f a0 55296 57343).bind fun t182 => (some (!t182))) else (some false))
set_option maxHeartbeats 8000000 in
set_option maxRecDepth 100000 in
theorem spec_RuneOk.calls (a0 : Int) (r : Bool) (w : World) (h : spec_RuneOk.f a0 = some r) :
  Calls Try.prog 135 #[.int .i64 a0] w fun e w' => e = .returned (.bool r) ∧ Drawn0 w w' := by
 (
have H := h
unfold spec_RuneOk.f at H
clear h
replace H := Option.bind_eq_some_iff.mp H
obtain ⟨t181, A20, H⟩ := H
(try dsimp only at H)
have A2 := am A20
clear A20
by_cases c3 : t181 = true
·(
subst c3
have H1 : ((spec_l1In.f a0 55296 57343).bind fun t182 => (some (!t182))) = some r := by rw [if_pos rfl] at H; exact H
clear H
have H := H1
clear H1
replace H := Option.bind_eq_some_iff.mp H
obtain ⟨t182, A40, H⟩ := H
replace H : (some (!t182)) = some r := H
have A4 := am A40
clear A40
obtain rfl := Option.some.inj H
go_enter Try.func135, Try.ntmps135
go_wp2_with (first | ((with_reducible refine gate_callee (f := 60) rfl ?_); refine gl_ (some 4) Try.func60 #[.int .i64 a0, .int .i64 0, .int .i64 1114111] ?_; (with_reducible refine (spec_l1In.calls a0 0 1114111 true _ A2.out).mono ?_); rintro e w' ⟨rfl, ⟨nd, rfl⟩⟩; refine ⟨_, rfl, ?_⟩) | (go_at_call 60; (with_reducible refine (spec_l1In.calls a0 55296 57343 t182 _ A4.out).mono ?_); rintro e w' ⟨rfl, ⟨nd, rfl⟩⟩))
go_ret
exact ⟨by first | rfl | (simp; done) | (simp [*]; done), by repeat (first | exact Drawn0.refl _ | apply Drawn0.step)⟩
)
·(
replace c3 := Bool.eq_false_iff.mpr c3
subst c3
have H1 : (some false) = some r := by rw [if_neg (show ¬ (false = true) by decide)] at H; exact H
clear H
have H := H1
clear H1
obtain rfl := Option.some.inj H
go_enter Try.func135, Try.ntmps135
go_wp2_with (first | ((with_reducible refine gate_callee (f := 60) rfl ?_); refine gl_ (some 4) Try.func60 #[.int .i64 a0, .int .i64 0, .int .i64 1114111] ?_; (with_reducible refine (spec_l1In.calls a0 0 1114111 false _ A2.out).mono ?_); rintro e w' ⟨rfl, ⟨nd, rfl⟩⟩; refine ⟨_, rfl, ?_⟩))
go_ret
exact ⟨by first | rfl | (simp; done) | (simp [*]; done), by repeat (first | exact Drawn0.refl _ | apply Drawn0.step)⟩
)
)

end Go.Proofs.Ytalopdcephohgaa.RC
