/- Contracts of Go functions that laws of this seat reach: each Lean function answers as its Go function does. No condition. Written by wip/tools/inj.py, over the kit's print. -/
import Derived.Test.YtalopdcephohgaaRAx0
import Derived.Test.YtalopdcephohgaaRAx7
namespace Go.Proofs.Ytalopdcephohgaa.RA
open Go.RowKit Go.Proofs.YtalopdcephohgaaW.PrintWords Go.Proofs.YtalopdcephohgaaW.PrintLast Go.Proofs.YtalopdcephohgaaW.PrintMore
attribute [local go_sem] max2_int min2_int max_two min_two max_three min_three max_four min_four   -- for this text's walks alone
set_option linter.unusedVariables false
set_option linter.unusedSimpArgs false

/-! ### impl_Keep: function 10 -/
def impl_Keep.j0 : Nat → ByteArray → Bool → Int → List ByteArray → Int → Option (Int × List ByteArray × Int × Bool)
 | 0, _, _, _, _, _ => none
 | k + 1, x1, x14, x246000, x246001, x246002 => if x14 = true then (some (0, ([] : List ByteArray), 0, false)) else ((slices_Clone_string_string.f x246001).bind fun t248 => ((some (([x1] : List ByteArray) : List ByteArray)).bind fun y251 => (if t248.length + y251.length < 8796093022208 then ((some (t248 ++ y251 : List ByteArray)).bind fun y254 => (if (y254.length : Int) > x246000 then (if 1 ≤ (y254.length : Int) then ((slices_Clone_string_string.f (y254.drop 1)).bind fun t262 => (if (wrap64 (x246002 + 1)) > 1000000 then (some (0, ([] : List ByteArray), 0, false)) else (some (x246000, t262, wrap64 (x246002 + 1), true)))) else (none)) else (if x246002 > 1000000 then (some (0, ([] : List ByteArray), 0, false)) else (some (x246000, y254, x246002, true))))) else (none))))
def impl_Keep.f (k : Nat) (a0_0 : Int) (l0_1 : List ByteArray) (a0_2 : Int) (a1 : ByteArray) : Option (Int × List ByteArray × Int × Bool) := (impl_HistoryOk.f k a0_0 l0_1 a0_2).bind fun t247 => (if t247 = true then (impl_Keep.j0 k a1 (decide ((a1.size : Int) > 300)) a0_0 l0_1 a0_2) else (impl_Keep.j0 k a1 true a0_0 l0_1 a0_2))
theorem impl_Keep.mono_l : ∀ k, (∀ y0 y1 y2 y3 y4, LeO (impl_Keep.j0 k y0 y1 y2 y3 y4) (impl_Keep.j0 (k + 1) y0 y1 y2 y3 y4))
 | 0 => fun _ _ _ _ _ r h => by simp [impl_Keep.j0] at h
 | k + 1 => by
  have ih0 := impl_Keep.mono_l k
  ·intro y0 y1 y2 y3 y4
   unfold impl_Keep.j0
   repeat' first
   | (with_reducible exact ih0 _ _ _ _ _)
   | (with_reducible exact impl_HistoryOk.mono _ _ _ _)
   | (with_reducible exact LeO.refl _)
   | (with_reducible exact LeO.none _)
   | (with_reducible refine LeO.ite ?_ ?_)
   | (with_reducible refine LeO.bind ?_ (fun _ => ?_))
theorem impl_Keep.mono : ∀ a0 a1 a2 a3 k, LeO (impl_Keep.f k a0 a1 a2 a3) (impl_Keep.f (k + 1) a0 a1 a2 a3) := by
 intro a0 a1 a2 a3 k
 have ih0 := impl_Keep.mono_l k
 unfold impl_Keep.f
 repeat' first
   | (with_reducible exact ih0 _ _ _ _ _)
   | (with_reducible exact impl_HistoryOk.mono _ _ _ _)
   | (with_reducible exact LeO.refl _)
   | (with_reducible exact LeO.none _)
   | (with_reducible refine LeO.ite ?_ ?_)
   | (with_reducible refine LeO.bind ?_ (fun _ => ?_))
def impl_Keep.T3 : Bool × List (List Nat × List Nat) := (true, [([], []), ([0], [0]), ([], []), ([2], [2]), ([3], [3]), ([], []), ([5], [5]), ([4, 6, 4], [4, 6]), ([], []), ([8], [8]), ([1, 7, 9], [1, 7, 9]), ([], []), ([11, 10, 7, 0, 1, 2, 3, 4, 5, 6, 7, 8, 9, 10, 11], [10, 11])])
def impl_Keep.B3 : List Nat := [0, 1, 0, 4, 12, 0, 32, 124, 0, 256, 1023, 0, 4095]
theorem impl_Keep.tab3 : rtab .any (opsOf Try.f10 3) = impl_Keep.T3 := by kernel_rfl
theorem impl_Keep.bits3 : waitsOk impl_Keep.T3.2 impl_Keep.B3 = true := by kernel_rfl
set_option maxHeartbeats 8000000 in
set_option maxRecDepth 100000 in
theorem impl_Keep.calls (k : Nat) (a0_0 : Int) (A0_1 : Option Addr) (c0_1 : Nat) (l0_1 : List ByteArray) (a0_2 : Int) (a1 : ByteArray) (r1 : Int) (r2 : List ByteArray) (r3 : Int) (r4 : Bool) (w : World) (hr0_1 : Kd.C Kd.string w A0_1 l0_1.length l0_1) (hc0_1 : l0_1.length ≤ c0_1) (h : impl_Keep.f k a0_0 l0_1 a0_2 a1 = some (r1, r2, r3, r4)) :
  Calls Try.prog 10 #[.agg #[.int .i64 a0_0, .slice A0_1 l0_1.length c0_1, .int .i64 a0_2], .string a1] w fun e w' => ∃ v1_ : Value, e = .returned (.tuple #[.agg #[.int .i64 r1, v1_, .int .i64 r3], .bool r4]) ∧ Kd.R Kd.string 9 w' w.heap.size (fun _ => True) v1_ r2 ∧ Below w.heap.size w w' := by
 (
have hu26 := Try.underlying26
have HR0_1 := am hr0_1
have HC0_1 := am hc0_1
clear hr0_1 hc0_1
have HB := am (Below.refl w.heap.size w)
have H := h
unfold impl_Keep.f at H
clear h
have HC3 := am H
clear H
go_enter Try.func10, Try.ntmps10
go_upto_region 1 with (first | ((with_reducible refine gate_dst (N := 2) rfl ?_); (try (refine gate_guard (by rfl) ?_; dsimp only)); refine box_event ?hg (N := 2) ?hd (cs := #[.int .i64 a0_0, .slice A0_1 l0_1.length c0_1, .int .i64 a0_2]) (t := 26) ?hr ?_; (case hd => rfl); (case hg => rfl); (case hr => first | (go_simp; done) | (go_simp; rfl)); intro gb245 hg w4 hbox hb; have BK245 := am (hbox); have GW245 := am (gw hg (rb HB)); have GE245 := GW245; replace HB := am (below_step (rb HB) hb); clear hb hbox hg) | ((with_reducible refine gate_dst (N := 4) rfl ?_); (try (refine gate_guard (by rfl) ?_; dsimp only)); refine box_event ?hg (N := 4) ?hd (cs := #[.int .i64 0, .slice none 0 0, .int .i64 0]) (t := 26) ?hr ?_; (case hd => rfl); (case hg => rfl); (case hr => first | (go_simp; done) | (go_simp; rfl)); intro gb246 hg w5 hbox hb; have BK246 := am (hbox); have GW246 := am (gw hg (rb1 HB GE245)); have GE246 := GW246; replace HB := am (below_step (rb1 HB GE245) hb); have NB245_246 := am (nl hg (rk BK245)); have NB246_245 := am (ng hg (rk BK245)); replace BK245 := am (blk_below (rk BK245) hb); clear hb hbox hg))
(try simp only [Act.put, List.setIfInBounds_toArray, List.set_cons_zero, List.set_cons_succ])
go_cut [14] (fun v14 wc => ∃ (kq : Nat) (x14_2 : Bool), v14 = .bool x14_2 ∧ Aside0 (impl_Keep.j0 kq a1 x14_2 a0_0 l0_1 a0_2 = some (r1, r2, r3, r4)) ∧ Aside0 (kq ≤ k) ∧ Aside0 (wc.heap[gb245]? = some (.cells #[.int .i64 a0_0, (.slice A0_1 l0_1.length c0_1), .int .i64 a0_2] 26 (0, 0))) ∧ Aside0 (wc.heap[gb246]? = some (.cells #[.int .i64 0, (.slice none 0 0), .int .i64 0] 26 (0, 0))) ∧ Aside0 (Below w.heap.size w wc))
case first => (
have H := HC3.out
clear HC3
replace H := Option.bind_eq_some_iff.mp H
obtain ⟨t247, A60, H⟩ := H
(try dsimp only at H)
have A6 := am A60
clear A60
by_cases c7 : t247 = true
·(
subst c7
rw [if_pos rfl] at H
have H' := am H
clear H
have hnb8 := NB245_246.out
have hnc8 := NB246_245.out
have hcz9_0 : w5.cell? ⟨gb245, 0, none⟩ = some (.int .i64 a0_0) := (blk_cell BK245.out 0).trans rfl
have hcz9_1 : w5.cell? ⟨gb245, 1, none⟩ = some (.slice A0_1 l0_1.length c0_1) := (blk_cell BK245.out 1).trans rfl
have hcz9_2 : w5.cell? ⟨gb245, 2, none⟩ = some (.int .i64 a0_2) := (blk_cell BK245.out 2).trans rfl
have hfz9_0 := blk_frozen BK245.out 0
have hfz9_1 := blk_frozen BK245.out 1
have hfz9_2 := blk_frozen BK245.out 2
go_wp2_with (first | ((with_reducible refine gate_callee (f := 19) rfl ?_); refine gl_ (some 8) Try.func19 #[.agg #[.int .i64 a0_0, .slice A0_1 l0_1.length c0_1, .int .i64 a0_2]] ?_; (with_reducible refine (impl_HistoryOk.calls k a0_0 _ _ l0_1 a0_2 true _ ?side1 ?side2 A6.out).mono ?_); (case side1 => exact rc ((Kd.C_below HR0_1.out HB.out))); (case side2 => exact HC0_1.out); rintro e w10 ⟨rfl, hb⟩; refine ⟨_, rfl, ?_⟩; replace BK245 := am (blk_below (rk BK245) hb); replace BK246 := am (blk_below (rk BK246) hb); replace HB := am (below_step (rb2 HB GE245 GE246) hb); (try clear hb); (try clear hb2); (try clear hk); (try clear hi)))
go_meet
case rel => exact ⟨_, (decide ((a1.size : Int) > 300)), (by first | rfl | (simp; done) | (simp [*]; done)), H', ⟨by first | omega | exact Nat.le_refl _⟩, ⟨rk BK245⟩, ⟨rk BK246⟩, ⟨rb2 HB GE245 GE246⟩⟩
)
·(
replace c7 := Bool.eq_false_iff.mpr c7
subst c7
rw [if_neg (show ¬ (false = true) by decide)] at H
have H' := am H
clear H
have hnb11 := NB245_246.out
have hnc11 := NB246_245.out
have hcz12_0 : w5.cell? ⟨gb245, 0, none⟩ = some (.int .i64 a0_0) := (blk_cell BK245.out 0).trans rfl
have hcz12_1 : w5.cell? ⟨gb245, 1, none⟩ = some (.slice A0_1 l0_1.length c0_1) := (blk_cell BK245.out 1).trans rfl
have hcz12_2 : w5.cell? ⟨gb245, 2, none⟩ = some (.int .i64 a0_2) := (blk_cell BK245.out 2).trans rfl
have hfz12_0 := blk_frozen BK245.out 0
have hfz12_1 := blk_frozen BK245.out 1
have hfz12_2 := blk_frozen BK245.out 2
go_wp2_with (first | ((with_reducible refine gate_callee (f := 19) rfl ?_); refine gl_ (some 8) Try.func19 #[.agg #[.int .i64 a0_0, .slice A0_1 l0_1.length c0_1, .int .i64 a0_2]] ?_; (with_reducible refine (impl_HistoryOk.calls k a0_0 _ _ l0_1 a0_2 false _ ?side1 ?side2 A6.out).mono ?_); (case side1 => exact rc ((Kd.C_below HR0_1.out HB.out))); (case side2 => exact HC0_1.out); rintro e w13 ⟨rfl, hb⟩; refine ⟨_, rfl, ?_⟩; replace BK245 := am (blk_below (rk BK245) hb); replace BK246 := am (blk_below (rk BK246) hb); replace HB := am (below_step (rb2 HB GE245 GE246) hb); (try clear hb); (try clear hb2); (try clear hk); (try clear hi)))
go_meet
case rel => exact ⟨_, (true), (by first | rfl | (simp; done) | (simp [*]; done)), H', ⟨by first | omega | exact Nat.le_refl _⟩, ⟨rk BK245⟩, ⟨rk BK246⟩, ⟨rb2 HB GE245 GE246⟩⟩
)
)
case rest => (
clear HC3
try clear c1
try clear p2
try clear c7
try clear c8
try clear c10
try clear c11
try clear hcz12_0
try clear hcz12_1
try clear hcz12_2
try clear hcz9_0
try clear hcz9_1
try clear hcz9_2
try clear hfz12_0
try clear hfz12_1
try clear hfz12_2
try clear hfz9_0
try clear hfz9_1
try clear hfz9_2
obtain ⟨kq, x14_2, rfl, HA, HJ2, BK245, BK246, HB⟩ := hcut
cases kq with
| zero => exact absurd HA.out (by simp [impl_Keep.j0])
| succ kj2 => (
have H := HA.out
clear HA
simp only [impl_Keep.j0] at H
by_cases c14 : x14_2 = true
·(
subst c14
have H1 : (some (0, ([] : List ByteArray), 0, false)) = some (r1, r2, r3, r4) := by rw [if_pos rfl] at H; exact H
clear H
have H := H1
clear H1
simp only [Option.some.injEq, Prod.mk.injEq] at H
obtain ⟨rfl, rfl, rfl, rfl⟩ := H
have hnb15 := NB246_245.out
have hnc15 := NB245_246.out
have hcz16_0 : wc.cell? ⟨gb246, 0, none⟩ = some (.int .i64 0) := (blk_cell BK246.out 0).trans rfl
have hcz16_1 : wc.cell? ⟨gb246, 1, none⟩ = some (.slice none 0 0) := (blk_cell BK246.out 1).trans rfl
have hcz16_2 : wc.cell? ⟨gb246, 2, none⟩ = some (.int .i64 0) := (blk_cell BK246.out 2).trans rfl
have hfz16_0 := blk_frozen BK246.out 0
have hfz16_1 := blk_frozen BK246.out 1
have hfz16_2 := blk_frozen BK246.out 2
go_wp2
refine bodyPost_ret (results_ct rfl _ _ gb246 26 #[.int .i64 0, .slice none 0 0, .int .i64 0] (0, 0) _ rfl (rp_0_1_2 BK246) Try.underlying26 rfl (by kernel_rfl)) rfl ?_
exact ⟨_, by first | rfl | (simp [errW_none, errW_some] <;> rfl) | (simp [*, errW_none, errW_some] <;> rfl), by first | exact Kd.R_nil _ _ _ _ _ | exact Kd.N_nil _ _ _ _ _ | exact Kd.V_nil _ _ _ _ _ | exact Kd.Q_nil _ _ _ _ _ | exact Kd.S_nil _ _ _ _ _, rb2 HB GE245 GE246⟩
)
·(
replace c14 := Bool.eq_false_iff.mpr c14
subst c14
rw [if_neg (show ¬ (false = true) by decide)] at H
replace H := Option.bind_eq_some_iff.mp H
obtain ⟨t248, A170, H⟩ := H
(try dsimp only at H)
have A17 := am A170
clear A170
obtain ⟨y251, hy251⟩ : ∃ y_ : List ByteArray, y_ = (([a1] : List ByteArray)) := ⟨_, rfl⟩
replace H : (if t248.length + y251.length < 8796093022208 then ((some (t248 ++ y251 : List ByteArray)).bind fun y254 => (if (y254.length : Int) > a0_0 then (if 1 ≤ (y254.length : Int) then ((slices_Clone_string_string.f (y254.drop 1)).bind fun t262 => (if (wrap64 (a0_2 + 1)) > 1000000 then (some (0, ([] : List ByteArray), 0, false)) else (some (a0_0, t262, wrap64 (a0_2 + 1), true)))) else (none)) else (if a0_2 > 1000000 then (some (0, ([] : List ByteArray), 0, false)) else (some (a0_0, y254, a0_2, true))))) else (none)) = some (r1, r2, r3, r4) := by first | (rw [hy251]; with_reducible exact H) | (rw [hy251]; exact H) | exact H
have Ny251 := am hy251
clear hy251
by_cases c18 : t248.length + y251.length < 8796093022208
·(
rw [if_pos c18] at H
have LMc18 := am c18
clear c18
obtain ⟨y254, hy254⟩ : ∃ y_ : List ByteArray, y_ = (t248 ++ y251) := ⟨_, rfl⟩
replace H : (if (y254.length : Int) > a0_0 then (if 1 ≤ (y254.length : Int) then ((slices_Clone_string_string.f (y254.drop 1)).bind fun t262 => (if (wrap64 (a0_2 + 1)) > 1000000 then (some (0, ([] : List ByteArray), 0, false)) else (some (a0_0, t262, wrap64 (a0_2 + 1), true)))) else (none)) else (if a0_2 > 1000000 then (some (0, ([] : List ByteArray), 0, false)) else (some (a0_0, y254, a0_2, true)))) = some (r1, r2, r3, r4) := by first | (rw [hy254]; with_reducible exact H) | (rw [hy254]; exact H) | exact H
have Ny254 := am hy254
clear hy254
by_cases c19 : (y254.length : Int) > a0_0
·(
rw [if_pos c19] at H
have c19b0 : decide (a0_0 < (y254.length : Int)) = true := decide_eq_true c19
clear c19
by_cases c20 : 1 ≤ (y254.length : Int)
·(
rw [if_pos c20] at H
have c20b0 := eq_true c20
have c20b1 : decide (1 ≤ (y254.length : Int)) = true := decide_eq_true c20
clear c20
obtain ⟨y258, hy258⟩ : ∃ y_ : List ByteArray, y_ = (y254.drop 1) := ⟨_, rfl⟩
replace H : ((slices_Clone_string_string.f y258).bind fun t262 => (if (wrap64 (a0_2 + 1)) > 1000000 then (some (0, ([] : List ByteArray), 0, false)) else (some (a0_0, t262, wrap64 (a0_2 + 1), true)))) = some (r1, r2, r3, r4) := by first | (rw [hy258]; with_reducible exact H) | (rw [hy258]; exact H) | exact H
have Ny258 := am hy258
clear hy258
replace H := Option.bind_eq_some_iff.mp H
obtain ⟨t262, A210, H⟩ := H
(try dsimp only at H)
have A21 := am A210
clear A210
by_cases c22 : (wrap64 (a0_2 + 1)) > 1000000
·(
rw [if_pos c22] at H
have c22b0 : decide (1000000 < (wrap64 (a0_2 + 1))) = true := decide_eq_true c22
clear c22
simp only [Option.some.injEq, Prod.mk.injEq] at H
obtain ⟨rfl, rfl, rfl, rfl⟩ := H
try go_wp2
replace BK245 := am (blk_drew BK245.out)
replace BK246 := am (blk_drew BK246.out)
replace HB := am (below_drew1 HB.out)
refine start_ (n := 13) (S := fun w' => w'.cell? ⟨gb245, 0, none⟩ = some (.int .i64 a0_0) ∧ w'.cell? ⟨gb245, 1, none⟩ = some (.slice A0_1 l0_1.length c0_1) ∧ w'.cell? ⟨gb245, 2, none⟩ = some (.int .i64 a0_2)) (ds := []) (bm 13 0) (by kernel_rfl) rfl rfl (bc3 BK245) (fun hHeld => ?_); refine with_tabW impl_Keep.tab3 impl_Keep.bits3 (fun HT_ HW_ => ?_)
generalize wc.drew = w23 at BK245 BK246 HB hHeld ⊢
refine pu_ 0 16 (bm 13 1) HT_.out ?_
refine pu_ 2 18 (bm 13 5) HT_.out ?_
refine pu_ 5 21 (bm 13 37) HT_.out ?_
refine pu_ 8 24 (bm 13 293) HT_.out ?_
refine take_ (i := 1) (N := some 17) (v := ?_) (a' := ?_) (bm 13 295) rfl rfl (take_ofW HT_.out HW_.out (by kernel_rfl)) (fun _ _ _ h => h) (Or.inl ⟨by rfl, ?_⟩) hHeld ?_ ?_
rotate_left
·(
rintro w' ⟨s0, s1, s2⟩
go_simp
with_reducible rfl
)
rotate_left
·(
simp only [Act.put, List.setIfInBounds_toArray, List.set_cons_zero, List.set_cons_succ, i64_w, i32_w]
rfl
)
refine take_ (i := 3) (N := some 19) (v := ?_) (a' := ?_) (bm 13 303) rfl rfl (take_ofW HT_.out HW_.out (by kernel_rfl)) (fun _ _ _ h => h) (Or.inl ⟨by rfl, ?_⟩) hHeld ?_ ?_
rotate_left
·(
rintro w' ⟨s0, s1, s2⟩
go_simp
with_reducible rfl
)
rotate_left
·(
simp only [Act.put, List.setIfInBounds_toArray, List.set_cons_zero, List.set_cons_succ, i64_w, i32_w]
rfl
)
refine take_ (i := 9) (N := some 25) (v := ?_) (a' := ?_) (bm 13 815) rfl rfl (take_ofW HT_.out HW_.out (by kernel_rfl)) (fun _ _ _ h => h) (Or.inl ⟨by rfl, ?_⟩) hHeld ?_ ?_
rotate_left
·(
rintro w' ⟨s0, s1, s2⟩
go_simp
with_reducible rfl
)
rotate_left
·(
simp only [Act.put, List.setIfInBounds_toArray, List.set_cons_zero, List.set_cons_succ, i64_w, i32_w]
rfl
)
refine join_ (σ := Value × Value × Value × Nat) 1 (bm 13 4095) (fun s_ => [(20, s_.1), (22, s_.2.1), (23, s_.2.2.1), (6, .pointer (some ⟨s_.2.2.2, 0, none⟩)), (26, .agg #[.int .i64 a0_0, s_.2.2.1, .int .i64 a0_2])]) (fun s_ w' => (w'.cell? ⟨gb245, 0, none⟩ = some (.int .i64 a0_0) ∧ w'.cell? ⟨gb245, 1, none⟩ = some (.slice A0_1 l0_1.length c0_1) ∧ w'.cell? ⟨gb245, 2, none⟩ = some (.int .i64 a0_2)) ∧ (Kd.R Kd.string 9 w' w.heap.size (fun k_ => some k_ ≠ (s_.2.2.1 : Value).ownBlock) s_.2.1 y251) ∧ (Kd.R Kd.string 9 w' w.heap.size (fun k_ => some k_ ≠ (s_.2.1 : Value).ownBlock) s_.2.2.1 y254) ∧ (w'.heap[gb245]? = some (.cells #[.int .i64 a0_0, .slice A0_1 l0_1.length c0_1, .int .i64 a0_2] 26 (0, 0))) ∧ (w'.heap[gb246]? = some (.cells #[.int .i64 0, .slice none 0 0, .int .i64 0] 26 (0, 0))) ∧ (w'.heap[s_.2.2.2]? = some (.cells #[.int .i64 0, .slice none 0 0, .int .i64 0] 26 (0, 0))) ∧ (w.heap.size ≤ s_.2.2.2) ∧ (w.heap.size ≤ s_.2.2.2) ∧ (gb245 ≠ s_.2.2.2) ∧ (s_.2.2.2 ≠ gb245) ∧ (gb246 ≠ s_.2.2.2) ∧ (s_.2.2.2 ≠ gb246) ∧ (Below w.heap.size w w')) ?_ ?_
rotate_left
·(
intro hJ4_6_7_11
refine join_ (σ := Value × Value × Value) 2 (bm 13 2047) (fun s_ => [(20, s_.1), (22, s_.2.1), (23, s_.2.2), (26, .agg #[.int .i64 a0_0, s_.2.2, .int .i64 a0_2])]) (fun s_ w' => (w'.cell? ⟨gb245, 0, none⟩ = some (.int .i64 a0_0) ∧ w'.cell? ⟨gb245, 1, none⟩ = some (.slice A0_1 l0_1.length c0_1) ∧ w'.cell? ⟨gb245, 2, none⟩ = some (.int .i64 a0_2)) ∧ (Kd.R Kd.string 9 w' w.heap.size (fun k_ => some k_ ≠ (s_.2.2 : Value).ownBlock) s_.2.1 y251) ∧ (Kd.R Kd.string 9 w' w.heap.size (fun k_ => some k_ ≠ (s_.2.1 : Value).ownBlock) s_.2.2 y254) ∧ (w'.heap[gb245]? = some (.cells #[.int .i64 a0_0, .slice A0_1 l0_1.length c0_1, .int .i64 a0_2] 26 (0, 0))) ∧ (w'.heap[gb246]? = some (.cells #[.int .i64 0, .slice none 0 0, .int .i64 0] 26 (0, 0))) ∧ (Below w.heap.size w w')) ?_ ?_
rotate_left
·(
intro hJ4_6_7
refine join_ (σ := Value × Value × Nat) 3 (bm 13 2943) (fun s_ => [(20, s_.1), (22, s_.2.1), (6, .pointer (some ⟨s_.2.2, 0, none⟩))]) (fun s_ w' => (w'.cell? ⟨gb245, 0, none⟩ = some (.int .i64 a0_0) ∧ w'.cell? ⟨gb245, 1, none⟩ = some (.slice A0_1 l0_1.length c0_1) ∧ w'.cell? ⟨gb245, 2, none⟩ = some (.int .i64 a0_2)) ∧ (Kd.R Kd.string 9 w' w.heap.size (fun k_ => some k_ ≠ (s_.2.1 : Value).ownBlock) s_.1 t248) ∧ (Kd.R Kd.string 9 w' w.heap.size (fun k_ => some k_ ≠ (s_.1 : Value).ownBlock) s_.2.1 y251) ∧ (w'.heap[gb245]? = some (.cells #[.int .i64 a0_0, .slice A0_1 l0_1.length c0_1, .int .i64 a0_2] 26 (0, 0))) ∧ (w'.heap[gb246]? = some (.cells #[.int .i64 0, .slice none 0 0, .int .i64 0] 26 (0, 0))) ∧ (w'.heap[s_.2.2]? = some (.cells #[.int .i64 0, .slice none 0 0, .int .i64 0] 26 (0, 0))) ∧ (w.heap.size ≤ s_.2.2) ∧ (w.heap.size ≤ s_.2.2) ∧ (gb245 ≠ s_.2.2) ∧ (s_.2.2 ≠ gb245) ∧ (gb246 ≠ s_.2.2) ∧ (s_.2.2 ≠ gb246) ∧ (Below w.heap.size w w')) ?_ ?_
rotate_left
·(
intro hJ4_6_11
refine join_ (σ := Value × Value) 4 (bm 13 895) (fun s_ => [(20, s_.1), (22, s_.2)]) (fun s_ w' => (w'.cell? ⟨gb245, 0, none⟩ = some (.int .i64 a0_0) ∧ w'.cell? ⟨gb245, 1, none⟩ = some (.slice A0_1 l0_1.length c0_1) ∧ w'.cell? ⟨gb245, 2, none⟩ = some (.int .i64 a0_2)) ∧ (Kd.R Kd.string 9 w' w.heap.size (fun k_ => some k_ ≠ (s_.2 : Value).ownBlock) s_.1 t248) ∧ (Kd.R Kd.string 9 w' w.heap.size (fun k_ => some k_ ≠ (s_.1 : Value).ownBlock) s_.2 y251) ∧ (w'.heap[gb245]? = some (.cells #[.int .i64 a0_0, .slice A0_1 l0_1.length c0_1, .int .i64 a0_2] 26 (0, 0))) ∧ (w'.heap[gb246]? = some (.cells #[.int .i64 0, .slice none 0 0, .int .i64 0] 26 (0, 0))) ∧ (Below w.heap.size w w')) ?_ ?_
rotate_left
·(
intro hJ4_6
refine join_ (σ := Value × Nat) 4 (bm 13 2879) (fun s_ => [(20, s_.1), (6, .pointer (some ⟨s_.2, 0, none⟩))]) (fun s_ w' => (w'.cell? ⟨gb245, 0, none⟩ = some (.int .i64 a0_0) ∧ w'.cell? ⟨gb245, 1, none⟩ = some (.slice A0_1 l0_1.length c0_1) ∧ w'.cell? ⟨gb245, 2, none⟩ = some (.int .i64 a0_2)) ∧ (Kd.R Kd.string 9 w' w.heap.size (fun _ => True) s_.1 t248) ∧ (w'.heap[gb245]? = some (.cells #[.int .i64 a0_0, .slice A0_1 l0_1.length c0_1, .int .i64 a0_2] 26 (0, 0))) ∧ (w'.heap[gb246]? = some (.cells #[.int .i64 0, .slice none 0 0, .int .i64 0] 26 (0, 0))) ∧ (w'.heap[s_.2]? = some (.cells #[.int .i64 0, .slice none 0 0, .int .i64 0] 26 (0, 0))) ∧ (w.heap.size ≤ s_.2) ∧ (w.heap.size ≤ s_.2) ∧ (gb245 ≠ s_.2) ∧ (s_.2 ≠ gb245) ∧ (gb246 ≠ s_.2) ∧ (s_.2 ≠ gb246) ∧ (Below w.heap.size w w')) ?_ ?_
rotate_left
·(
intro hJ4_11
refine join_ (σ := Value × Nat) 4 (bm 13 2927) (fun s_ => [(22, s_.1), (6, .pointer (some ⟨s_.2, 0, none⟩))]) (fun s_ w' => (w'.cell? ⟨gb245, 0, none⟩ = some (.int .i64 a0_0) ∧ w'.cell? ⟨gb245, 1, none⟩ = some (.slice A0_1 l0_1.length c0_1) ∧ w'.cell? ⟨gb245, 2, none⟩ = some (.int .i64 a0_2)) ∧ (Kd.R Kd.string 9 w' w.heap.size (fun _ => True) s_.1 y251) ∧ (w'.heap[gb245]? = some (.cells #[.int .i64 a0_0, .slice A0_1 l0_1.length c0_1, .int .i64 a0_2] 26 (0, 0))) ∧ (w'.heap[gb246]? = some (.cells #[.int .i64 0, .slice none 0 0, .int .i64 0] 26 (0, 0))) ∧ (w'.heap[s_.2]? = some (.cells #[.int .i64 0, .slice none 0 0, .int .i64 0] 26 (0, 0))) ∧ (w.heap.size ≤ s_.2) ∧ (w.heap.size ≤ s_.2) ∧ (gb245 ≠ s_.2) ∧ (s_.2 ≠ gb245) ∧ (gb246 ≠ s_.2) ∧ (s_.2 ≠ gb246) ∧ (Below w.heap.size w w')) ?_ ?_
rotate_left
·(
intro hJ6_11
refine join_ (σ := Value) 5 (bm 13 831) (fun s_ => [(20, s_)]) (fun s_ w' => (w'.cell? ⟨gb245, 0, none⟩ = some (.int .i64 a0_0) ∧ w'.cell? ⟨gb245, 1, none⟩ = some (.slice A0_1 l0_1.length c0_1) ∧ w'.cell? ⟨gb245, 2, none⟩ = some (.int .i64 a0_2)) ∧ (Kd.R Kd.string 9 w' w.heap.size (fun _ => True) s_ t248) ∧ (w'.heap[gb245]? = some (.cells #[.int .i64 a0_0, .slice A0_1 l0_1.length c0_1, .int .i64 a0_2] 26 (0, 0))) ∧ (w'.heap[gb246]? = some (.cells #[.int .i64 0, .slice none 0 0, .int .i64 0] 26 (0, 0))) ∧ (Below w.heap.size w w')) ?_ ?_
rotate_left
·(
intro hJ4
refine join_ (σ := Value) 5 (bm 13 879) (fun s_ => [(22, s_)]) (fun s_ w' => (w'.cell? ⟨gb245, 0, none⟩ = some (.int .i64 a0_0) ∧ w'.cell? ⟨gb245, 1, none⟩ = some (.slice A0_1 l0_1.length c0_1) ∧ w'.cell? ⟨gb245, 2, none⟩ = some (.int .i64 a0_2)) ∧ (Kd.R Kd.string 9 w' w.heap.size (fun _ => True) s_ y251) ∧ (w'.heap[gb245]? = some (.cells #[.int .i64 a0_0, .slice A0_1 l0_1.length c0_1, .int .i64 a0_2] 26 (0, 0))) ∧ (w'.heap[gb246]? = some (.cells #[.int .i64 0, .slice none 0 0, .int .i64 0] 26 (0, 0))) ∧ (Below w.heap.size w w')) ?_ ?_
rotate_left
·(
intro hJ6
refine join_ (σ := Nat) 5 (bm 13 2863) (fun s_ => [(6, .pointer (some ⟨s_, 0, none⟩))]) (fun s_ w' => (w'.cell? ⟨gb245, 0, none⟩ = some (.int .i64 a0_0) ∧ w'.cell? ⟨gb245, 1, none⟩ = some (.slice A0_1 l0_1.length c0_1) ∧ w'.cell? ⟨gb245, 2, none⟩ = some (.int .i64 a0_2)) ∧ (w'.heap[gb245]? = some (.cells #[.int .i64 a0_0, .slice A0_1 l0_1.length c0_1, .int .i64 a0_2] 26 (0, 0))) ∧ (w'.heap[gb246]? = some (.cells #[.int .i64 0, .slice none 0 0, .int .i64 0] 26 (0, 0))) ∧ (w'.heap[s_]? = some (.cells #[.int .i64 0, .slice none 0 0, .int .i64 0] 26 (0, 0))) ∧ (w.heap.size ≤ s_) ∧ (w.heap.size ≤ s_) ∧ (gb245 ≠ s_) ∧ (s_ ≠ gb245) ∧ (gb246 ≠ s_) ∧ (s_ ≠ gb246) ∧ (Below w.heap.size w w')) ?_ ?_
rotate_left
·(
intro hJ11
refine three_ (i := 4) (j := 6) (k := 11) (Ni := some 20) (Nj := some 22) (Nk := some 6) (bm 13 831) (bm 13 879) (bm 13 2863) rfl rfl rfl rfl rfl rfl (three_of HT_.out (by kernel_rfl)) (by decide) (by decide) (by decide) (fun K hK => ?_) (fun K hK => ?_) (fun K hK => ?_)
·(
skip
refine goes_ Try.func53 (by kernel_rfl) rfl #[.slice A0_1 l0_1.length c0_1] (by rfl) rfl rfl mt ?_
with_reducible refine (slices_Clone_string_string.calls _ _ l0_1 t248 _ ?side1 ?side2 A17.out).mono ?_
(case side1 => exact rc ((Kd.C_below HR0_1.out HB.out)))
(case side2 => exact HC0_1.out)
rintro e w24 ⟨v249, rfl, ho0, hb⟩
refine ⟨_, rfl, ?_⟩
have HO250 := am (Kd.R_lower ho0 (below_size (rb2 HB GE245 GE246)))
replace BK245 := am (blk_below (rk BK245) hb)
replace BK246 := am (blk_below (rk BK246) hb)
replace HB := am (below_step (rb2 HB GE245 GE246) hb)
(try clear hb)
(try clear ho0)
refine hK.out _ _ (bc3 BK245) (fun hHeld => ?_)
clear hK K
refine norm_ (a' := _) (show Act.put _ (some 20) _ = _ from na) ?_
exact norm_ nz (hJ4 (v249) _ ⟨hHeld, (rr HO250), (rk BK245), (rk BK246), (rb2 HB GE245 GE246)⟩)
)
·(
skip
refine Kd.R_lit_step Kd.string _ 9 ?hg (N := 22) ?hd (xs := ([a1] : List ByteArray)) (inner := [.string a1]) (ok := fun _ => True) (okp := fun _ => True) ?hr ?hp (fun _ hk => hk) trivial (Below.refl _ _) (Nat.le_refl _) (by simp) ?_; (case hd => rfl); (case hg => rfl); (case hr => first | (go_simp; done) | (go_simp; rfl)); (case hp => exact (Reps.one (show Kd.M Kd.string _ _ _ a1 [.string a1] from rfl) (Reps.none _ _)))
intro v252 w24 ho25 hb hg_ hnew_
clear hg_ hnew_
(first | rw [← Ny251.out] at ho25 | (simp only [Int.reduceToNat] at ho25; rw [← Ny251.out] at ho25))
have HO253 := am (Kd.R_lower ho25 (below_size (rb2 HB GE245 GE246)))
replace BK245 := am (blk_below (rk BK245) hb)
replace BK246 := am (blk_below (rk BK246) hb)
replace HB := am (below_step (rb2 HB GE245 GE246) hb)
clear hb ho25
refine hK.out _ _ (bc3 BK245) (fun hHeld => ?_)
clear hK K
refine norm_ (a' := _) (show Act.put _ (some 22) _ = _ from na) ?_
exact norm_ nz (hJ6 (v252) _ ⟨hHeld, (rr HO253), (rk BK245), (rk BK246), (rb2 HB GE245 GE246)⟩)
)
·(
skip
refine box_step ?hg (N := 6) ?hd (cs := #[.int .i64 0, .slice none 0 0, .int .i64 0]) (t := 26) ?hr ?_; (case hd => rfl); (case hg => rfl); (case hr => first | (go_simp; done) | (go_simp; rfl))
intro gb257 hg w24 hbox hb
have BK257 := am (hbox)
have GW257 := am (gw hg (rb2 HB GE245 GE246))
have GE257 := GW257
replace HB := am (below_step (rb2 HB GE245 GE246) hb)
have NB245_257 := am (nl hg (rk BK245))
have NB257_245 := am (ng hg (rk BK245))
replace BK245 := am (blk_below (rk BK245) hb)
have NB246_257 := am (nl hg (rk BK246))
have NB257_246 := am (ng hg (rk BK246))
replace BK246 := am (blk_below (rk BK246) hb)
clear hb hbox hg
refine hK.out _ _ (bc3 BK245) (fun hHeld => ?_)
clear hK K
refine norm_ (a' := _) (show Act.put _ (some 6) _ = _ from na) ?_
exact norm_ nz (hJ11 (gb257) _ ⟨hHeld, (rk BK245), (rk BK246), (rk BK257), GW257.out, GE257.out, NB245_257.out, NB257_245.out, NB246_257.out, NB257_246.out, (rb3 HB GE245 GE246 GE257)⟩)
)
)
·(
skip
rintro gb257 w25 ⟨hHeld, h0_, h1_, h2_, h3_, h4_, h5_, h6_, h7_, h8_, h9_⟩
(try dsimp only at hHeld h0_ h1_ h2_ h3_ h4_ h5_ h6_ h7_ h8_ h9_)
replace BK245 := am h0_; replace BK246 := am h1_; have BK257 := am h2_; have GW257 := am h3_; have GE257 := am h4_; have NB245_257 := am h5_; have NB257_245 := am h6_; have NB246_257 := am h7_; have NB257_246 := am h8_; replace HB := am h9_
clear h0_ h1_ h2_ h3_ h4_ h5_ h6_ h7_ h8_ h9_
refine norm_ (a' := _) nr ?_
refine two_ (i := 4) (j := 6) (Ni := some 20) (Nj := some 22) (bm 13 2879) (bm 13 2927) rfl rfl rfl rfl (two_of HT_.out (by kernel_rfl)) (by decide) (by decide) (fun K hK => ?_) (fun K hK => ?_)
·(
skip
refine goes_ Try.func53 (by kernel_rfl) rfl #[.slice A0_1 l0_1.length c0_1] (by rfl) rfl rfl mt ?_
with_reducible refine (slices_Clone_string_string.calls _ _ l0_1 t248 _ ?side1 ?side2 A17.out).mono ?_
(case side1 => exact rc ((Kd.C_below HR0_1.out HB.out)))
(case side2 => exact HC0_1.out)
rintro e w26 ⟨v249, rfl, ho0, hb⟩
refine ⟨_, rfl, ?_⟩
have HO250 := am (Kd.R_lower ho0 (below_size (rb3 HB GE245 GE246 GE257)))
replace BK245 := am (blk_below (rk BK245) hb)
replace BK246 := am (blk_below (rk BK246) hb)
replace BK257 := am (blk_below (rk BK257) hb)
replace HB := am (below_step (rb3 HB GE245 GE246 GE257) hb)
(try clear hb)
(try clear ho0)
refine hK.out _ _ (bc3 BK245) (fun hHeld => ?_)
clear hK K
refine norm_ (a' := _) (show Act.put _ (some 20) _ = _ from na) ?_
exact norm_ nz (hJ4_11 (v249, gb257) _ ⟨hHeld, (rr HO250), (rk BK245), (rk BK246), (rk BK257), GW257.out, GE257.out, NB245_257.out, NB257_245.out, NB246_257.out, NB257_246.out, (rb3 HB GE245 GE246 GE257)⟩)
)
·(
skip
refine Kd.R_lit_step Kd.string _ 9 ?hg (N := 22) ?hd (xs := ([a1] : List ByteArray)) (inner := [.string a1]) (ok := fun _ => True) (okp := fun _ => True) ?hr ?hp (fun _ hk => hk) trivial (Below.refl _ _) (Nat.le_refl _) (by simp) ?_; (case hd => rfl); (case hg => rfl); (case hr => first | (go_simp; done) | (go_simp; rfl)); (case hp => exact (Reps.one (show Kd.M Kd.string _ _ _ a1 [.string a1] from rfl) (Reps.none _ _)))
intro v252 w26 ho27 hb hg_ hnew_
clear hg_ hnew_
(first | rw [← Ny251.out] at ho27 | (simp only [Int.reduceToNat] at ho27; rw [← Ny251.out] at ho27))
have HO253 := am (Kd.R_lower ho27 (below_size (rb3 HB GE245 GE246 GE257)))
replace BK245 := am (blk_below (rk BK245) hb)
replace BK246 := am (blk_below (rk BK246) hb)
replace BK257 := am (blk_below (rk BK257) hb)
replace HB := am (below_step (rb3 HB GE245 GE246 GE257) hb)
clear hb ho27
refine hK.out _ _ (bc3 BK245) (fun hHeld => ?_)
clear hK K
refine norm_ (a' := _) (show Act.put _ (some 22) _ = _ from na) ?_
exact norm_ nz (hJ6_11 (v252, gb257) _ ⟨hHeld, (rr HO253), (rk BK245), (rk BK246), (rk BK257), GW257.out, GE257.out, NB245_257.out, NB257_245.out, NB246_257.out, NB257_246.out, (rb3 HB GE245 GE246 GE257)⟩)
)
)
)
·(
skip
rintro v252 w26 ⟨hHeld, h0_, h1_, h2_, h3_⟩
(try dsimp only at hHeld h0_ h1_ h2_ h3_)
have HO253 := am h0_; replace BK245 := am h1_; replace BK246 := am h2_; replace HB := am h3_
clear h0_ h1_ h2_ h3_
refine norm_ (a' := _) nr ?_
refine two_ (i := 4) (j := 11) (Ni := some 20) (Nj := some 6) (bm 13 895) (bm 13 2927) rfl rfl rfl rfl (two_of HT_.out (by kernel_rfl)) (by decide) (by decide) (fun K hK => ?_) (fun K hK => ?_)
·(
skip
refine goes_ Try.func53 (by kernel_rfl) rfl #[.slice A0_1 l0_1.length c0_1] (by rfl) rfl rfl mt ?_
with_reducible refine (slices_Clone_string_string.calls _ _ l0_1 t248 _ ?side1 ?side2 A17.out).mono ?_
(case side1 => exact rc ((Kd.C_below HR0_1.out HB.out)))
(case side2 => exact HC0_1.out)
rintro e w27 ⟨v249, rfl, ho0, hb⟩
refine ⟨_, rfl, ?_⟩
have HO250 := am (Kd.R_lower (Kd.R_new' ho0 (Kd.R_lt (rr HO253))) (below_size (rb2 HB GE245 GE246)))
replace HO253 := am (Kd.R_elder' (rr HO253) (Kd.R_base ho0) hb)
replace BK245 := am (blk_below (rk BK245) hb)
replace BK246 := am (blk_below (rk BK246) hb)
replace HB := am (below_step (rb2 HB GE245 GE246) hb)
(try clear hb)
(try clear ho0)
refine hK.out _ _ (bc3 BK245) (fun hHeld => ?_)
clear hK K
refine norm_ (a' := _) (show Act.put _ (some 20) _ = _ from na) ?_
exact norm_ nz (hJ4_6 (v249, v252) _ ⟨hHeld, (rrm HO250), (rrm HO253), (rk BK245), (rk BK246), (rb2 HB GE245 GE246)⟩)
)
·(
skip
refine box_step ?hg (N := 6) ?hd (cs := #[.int .i64 0, .slice none 0 0, .int .i64 0]) (t := 26) ?hr ?_; (case hd => rfl); (case hg => rfl); (case hr => first | (go_simp; done) | (go_simp; rfl))
intro gb257 hg w27 hbox hb
replace HO253 := am (Kd.R_below (rr HO253) hb)
have BK257 := am (hbox)
have GW257 := am (gw hg (rb2 HB GE245 GE246))
have GE257 := GW257
replace HB := am (below_step (rb2 HB GE245 GE246) hb)
have NB245_257 := am (nl hg (rk BK245))
have NB257_245 := am (ng hg (rk BK245))
replace BK245 := am (blk_below (rk BK245) hb)
have NB246_257 := am (nl hg (rk BK246))
have NB257_246 := am (ng hg (rk BK246))
replace BK246 := am (blk_below (rk BK246) hb)
clear hb hbox hg
refine hK.out _ _ (bc3 BK245) (fun hHeld => ?_)
clear hK K
refine norm_ (a' := _) (show Act.put _ (some 6) _ = _ from na) ?_
exact norm_ nz (hJ6_11 (v252, gb257) _ ⟨hHeld, (rr HO253), (rk BK245), (rk BK246), (rk BK257), GW257.out, GE257.out, NB245_257.out, NB257_245.out, NB246_257.out, NB257_246.out, (rb3 HB GE245 GE246 GE257)⟩)
)
)
)
·(
skip
rintro v249 w25 ⟨hHeld, h0_, h1_, h2_, h3_⟩
(try dsimp only at hHeld h0_ h1_ h2_ h3_)
have HO250 := am h0_; replace BK245 := am h1_; replace BK246 := am h2_; replace HB := am h3_
clear h0_ h1_ h2_ h3_
refine norm_ (a' := _) nr ?_
refine two_ (i := 6) (j := 11) (Ni := some 22) (Nj := some 6) (bm 13 895) (bm 13 2879) rfl rfl rfl rfl (two_of HT_.out (by kernel_rfl)) (by decide) (by decide) (fun K hK => ?_) (fun K hK => ?_)
·(
skip
refine Kd.R_lit_step Kd.string _ 9 ?hg (N := 22) ?hd (xs := ([a1] : List ByteArray)) (inner := [.string a1]) (ok := fun _ => True) (okp := fun _ => True) ?hr ?hp (fun _ hk => hk) trivial (Below.refl _ _) (Nat.le_refl _) (by simp) ?_; (case hd => rfl); (case hg => rfl); (case hr => first | (go_simp; done) | (go_simp; rfl)); (case hp => exact (Reps.one (show Kd.M Kd.string _ _ _ a1 [.string a1] from rfl) (Reps.none _ _)))
intro v252 w26 ho27 hb hg_ hnew_
clear hg_ hnew_
(first | rw [← Ny251.out] at ho27 | (simp only [Int.reduceToNat] at ho27; rw [← Ny251.out] at ho27))
have HO253 := am (Kd.R_lower (Kd.R_new' ho27 (Kd.R_lt (rr HO250))) (below_size (rb2 HB GE245 GE246)))
replace HO250 := am (Kd.R_elder' (rr HO250) (Kd.R_base ho27) hb)
replace BK245 := am (blk_below (rk BK245) hb)
replace BK246 := am (blk_below (rk BK246) hb)
replace HB := am (below_step (rb2 HB GE245 GE246) hb)
clear hb ho27
refine hK.out _ _ (bc3 BK245) (fun hHeld => ?_)
clear hK K
refine norm_ (a' := _) (show Act.put _ (some 22) _ = _ from na) ?_
exact norm_ nz (hJ4_6 (v249, v252) _ ⟨hHeld, (rrm HO250), (rrm HO253), (rk BK245), (rk BK246), (rb2 HB GE245 GE246)⟩)
)
·(
skip
refine box_step ?hg (N := 6) ?hd (cs := #[.int .i64 0, .slice none 0 0, .int .i64 0]) (t := 26) ?hr ?_; (case hd => rfl); (case hg => rfl); (case hr => first | (go_simp; done) | (go_simp; rfl))
intro gb257 hg w26 hbox hb
replace HO250 := am (Kd.R_below (rr HO250) hb)
have BK257 := am (hbox)
have GW257 := am (gw hg (rb2 HB GE245 GE246))
have GE257 := GW257
replace HB := am (below_step (rb2 HB GE245 GE246) hb)
have NB245_257 := am (nl hg (rk BK245))
have NB257_245 := am (ng hg (rk BK245))
replace BK245 := am (blk_below (rk BK245) hb)
have NB246_257 := am (nl hg (rk BK246))
have NB257_246 := am (ng hg (rk BK246))
replace BK246 := am (blk_below (rk BK246) hb)
clear hb hbox hg
refine hK.out _ _ (bc3 BK245) (fun hHeld => ?_)
clear hK K
refine norm_ (a' := _) (show Act.put _ (some 6) _ = _ from na) ?_
exact norm_ nz (hJ4_11 (v249, gb257) _ ⟨hHeld, (rr HO250), (rk BK245), (rk BK246), (rk BK257), GW257.out, GE257.out, NB245_257.out, NB257_245.out, NB246_257.out, NB257_246.out, (rb3 HB GE245 GE246 GE257)⟩)
)
)
)
·(
skip
rintro ⟨v252, gb257⟩ w27 ⟨hHeld, h0_, h1_, h2_, h3_, h4_, h5_, h6_, h7_, h8_, h9_, h10_⟩
(try dsimp only at hHeld h0_ h1_ h2_ h3_ h4_ h5_ h6_ h7_ h8_ h9_ h10_)
have HO253 := am h0_; replace BK245 := am h1_; replace BK246 := am h2_; have BK257 := am h3_; have GW257 := am h4_; have GE257 := am h5_; have NB245_257 := am h6_; have NB257_245 := am h7_; have NB246_257 := am h8_; have NB257_246 := am h9_; replace HB := am h10_
clear h0_ h1_ h2_ h3_ h4_ h5_ h6_ h7_ h8_ h9_ h10_
refine norm_ (a' := _) nr ?_
refine one_ (i := 4) (N := some 20) (bm 13 2943) rfl rfl (one_of HT_.out (by kernel_rfl)) (by decide) (fun K hK => ?_)
refine goes_ Try.func53 (by kernel_rfl) rfl #[.slice A0_1 l0_1.length c0_1] (by rfl) rfl rfl mt ?_
with_reducible refine (slices_Clone_string_string.calls _ _ l0_1 t248 _ ?side1 ?side2 A17.out).mono ?_
(case side1 => exact rc ((Kd.C_below HR0_1.out HB.out)))
(case side2 => exact HC0_1.out)
rintro e w28 ⟨v249, rfl, ho0, hb⟩
refine ⟨_, rfl, ?_⟩
have HO250 := am (Kd.R_lower (Kd.R_new' ho0 (Kd.R_lt (rr HO253))) (below_size (rb3 HB GE245 GE246 GE257)))
replace HO253 := am (Kd.R_elder' (rr HO253) (Kd.R_base ho0) hb)
replace BK245 := am (blk_below (rk BK245) hb)
replace BK246 := am (blk_below (rk BK246) hb)
replace BK257 := am (blk_below (rk BK257) hb)
replace HB := am (below_step (rb3 HB GE245 GE246 GE257) hb)
(try clear hb)
(try clear ho0)
refine hK.out _ _ (bc3 BK245) (fun hHeld => ?_)
clear hK K
refine norm_ (a' := _) (show Act.put _ (some 20) _ = _ from na) ?_
exact norm_ nz (hJ4_6_11 (v249, v252, gb257) _ ⟨hHeld, (rrm HO250), (rrm HO253), (rk BK245), (rk BK246), (rk BK257), GW257.out, GE257.out, NB245_257.out, NB257_245.out, NB246_257.out, NB257_246.out, (rb3 HB GE245 GE246 GE257)⟩)
)
)
·(
skip
rintro ⟨v249, gb257⟩ w26 ⟨hHeld, h0_, h1_, h2_, h3_, h4_, h5_, h6_, h7_, h8_, h9_, h10_⟩
(try dsimp only at hHeld h0_ h1_ h2_ h3_ h4_ h5_ h6_ h7_ h8_ h9_ h10_)
have HO250 := am h0_; replace BK245 := am h1_; replace BK246 := am h2_; have BK257 := am h3_; have GW257 := am h4_; have GE257 := am h5_; have NB245_257 := am h6_; have NB257_245 := am h7_; have NB246_257 := am h8_; have NB257_246 := am h9_; replace HB := am h10_
clear h0_ h1_ h2_ h3_ h4_ h5_ h6_ h7_ h8_ h9_ h10_
refine norm_ (a' := _) nr ?_
refine one_ (i := 6) (N := some 22) (bm 13 2943) rfl rfl (one_of HT_.out (by kernel_rfl)) (by decide) (fun K hK => ?_)
refine Kd.R_lit_step Kd.string _ 9 ?hg (N := 22) ?hd (xs := ([a1] : List ByteArray)) (inner := [.string a1]) (ok := fun _ => True) (okp := fun _ => True) ?hr ?hp (fun _ hk => hk) trivial (Below.refl _ _) (Nat.le_refl _) (by simp) ?_; (case hd => rfl); (case hg => rfl); (case hr => first | (go_simp; done) | (go_simp; rfl)); (case hp => exact (Reps.one (show Kd.M Kd.string _ _ _ a1 [.string a1] from rfl) (Reps.none _ _)))
intro v252 w27 ho28 hb hg_ hnew_
clear hg_ hnew_
(first | rw [← Ny251.out] at ho28 | (simp only [Int.reduceToNat] at ho28; rw [← Ny251.out] at ho28))
have HO253 := am (Kd.R_lower (Kd.R_new' ho28 (Kd.R_lt (rr HO250))) (below_size (rb3 HB GE245 GE246 GE257)))
replace HO250 := am (Kd.R_elder' (rr HO250) (Kd.R_base ho28) hb)
replace BK245 := am (blk_below (rk BK245) hb)
replace BK246 := am (blk_below (rk BK246) hb)
replace BK257 := am (blk_below (rk BK257) hb)
replace HB := am (below_step (rb3 HB GE245 GE246 GE257) hb)
clear hb ho28
refine hK.out _ _ (bc3 BK245) (fun hHeld => ?_)
clear hK K
refine norm_ (a' := _) (show Act.put _ (some 22) _ = _ from na) ?_
exact norm_ nz (hJ4_6_11 (v249, v252, gb257) _ ⟨hHeld, (rrm HO250), (rrm HO253), (rk BK245), (rk BK246), (rk BK257), GW257.out, GE257.out, NB245_257.out, NB257_245.out, NB246_257.out, NB257_246.out, (rb3 HB GE245 GE246 GE257)⟩)
)
)
·(
skip
rintro ⟨v249, v252⟩ w27 ⟨hHeld, h0_, h1_, h2_, h3_, h4_⟩
(try dsimp only at hHeld h0_ h1_ h2_ h3_ h4_)
have HO250 := am h0_; have HO253 := am h1_; replace BK245 := am h2_; replace BK246 := am h3_; replace HB := am h4_
clear h0_ h1_ h2_ h3_ h4_
obtain ⟨Ao29, co29, eo29⟩ := Kd.R_slice HO253.out
(first | subst eo29 | (injection eo29 with f1_ f2_ f3_; have f4_ := f1_.symm; have f5_ := f3_.symm; clear f1_ f2_ f3_; subst f4_; subst f5_))
refine norm_ (a' := _) nr ?_
refine two_ (i := 7) (j := 11) (Ni := some 23) (Nj := some 6) (bm 13 1023) (bm 13 2943) rfl rfl rfl rfl (two_of HT_.out (by kernel_rfl)) (by decide) (by decide) (fun K hK => ?_) (fun K hK => ?_)
·(
skip
refine Kd.R_append_rows_step Kd.string (w0 := w) w.heap.size (by rfl) (.tmp 20) (.tmp 22) 24 9 (.string ⟨#[]⟩) 16 rfl Try.underlying24 info9 rfl (by decide) (by omega) v249 t248 y251 _ _ _ (fun k_ => some k_ ≠ (.slice Ao29 y251.length co29 : Value).ownBlock) (fun _ => False) rfl rfl ?aO ?aR (fun _ _ h => h) (fun _ h => h.elim) ?aF ?aB ?aS ?aL ?_
(case aR => repeat (first | exact (Kd.R_reads' HO253.out).2.2 | (with_reducible refine Kd.C_alloc ?_ _) | (with_reducible refine Kd.C_drewN ?_ _) | (with_reducible refine Kd.C_drew ?_)))
(case aB => exact (rb2 HB GE245 GE246))
(case aF => exact (fun k_ hk => Kd.fresh' (Kd.R_lt (rr HO253)) k_ hk))
(case aO => exact (rr HO250))
(case aS => exact (below_size (rb2 HB GE245 GE246)))
(case aL => have := LMc18.out; omega)
intro v255 w28 ho hb hg hat
rw [← Ny254.out] at ho
replace BK245 := am (blk_grown (rk BK245) hg (Kd.R_ne HO250.out BK245.out (by decide)))
replace BK246 := am (blk_grown (rk BK246) hg (Kd.R_ne HO250.out BK246.out (by decide)))
replace HO253 := am (Kd.R_after (ok := (fun _ => True)) (by (with_reducible repeat (first | apply r1 | apply r2 | apply r3)); exact Kd.R_mono HO253.out (fun _ hk => ⟨trivial, hk⟩)) hg hat)
replace HB := am (hb)
have HO256 := am (ho)
clear HO250
clear ho hb hg hat
obtain ⟨Ao30, co30, eo30⟩ := Kd.R_slice HO256.out
(first | subst eo30 | (injection eo30 with f1_ f2_ f3_; have f4_ := f1_.symm; have f5_ := f3_.symm; clear f1_ f2_ f3_; subst f4_; subst f5_))
refine hK.out _ _ (bc3 BK245) (fun hHeld => ?_)
clear hK K
refine norm_ (a' := _) (show Act.put _ (some 23) _ = _ from na) ?_
refine pu_ 10 26 (bm 13 2047) HT_.out ?_
exact norm_ nz (hJ4_6_7 (v249, .slice Ao29 y251.length co29, .slice Ao30 y254.length co30) _ ⟨hHeld, (rrm HO253), (rr HO256), (rk BK245), (rk BK246), (rb2 HB GE245 GE246)⟩)
)
·(
skip
refine box_step ?hg (N := 6) ?hd (cs := #[.int .i64 0, .slice none 0 0, .int .i64 0]) (t := 26) ?hr ?_; (case hd => rfl); (case hg => rfl); (case hr => first | (go_simp; done) | (go_simp; rfl))
intro gb257 hg w28 hbox hb
replace HO250 := am (Kd.R_below (rr HO250) hb)
replace HO253 := am (Kd.R_below (rr HO253) hb)
have BK257 := am (hbox)
have GW257 := am (gw hg (rb2 HB GE245 GE246))
have GE257 := GW257
replace HB := am (below_step (rb2 HB GE245 GE246) hb)
have NB245_257 := am (nl hg (rk BK245))
have NB257_245 := am (ng hg (rk BK245))
replace BK245 := am (blk_below (rk BK245) hb)
have NB246_257 := am (nl hg (rk BK246))
have NB257_246 := am (ng hg (rk BK246))
replace BK246 := am (blk_below (rk BK246) hb)
clear hb hbox hg
refine hK.out _ _ (bc3 BK245) (fun hHeld => ?_)
clear hK K
refine norm_ (a' := _) (show Act.put _ (some 6) _ = _ from na) ?_
exact norm_ nz (hJ4_6_11 (v249, .slice Ao29 y251.length co29, gb257) _ ⟨hHeld, (rr HO250), (rr HO253), (rk BK245), (rk BK246), (rk BK257), GW257.out, GE257.out, NB245_257.out, NB257_245.out, NB246_257.out, NB257_246.out, (rb3 HB GE245 GE246 GE257)⟩)
)
)
)
·(
skip
rintro ⟨v249, v252, gb257⟩ w28 ⟨hHeld, h0_, h1_, h2_, h3_, h4_, h5_, h6_, h7_, h8_, h9_, h10_, h11_⟩
(try dsimp only at hHeld h0_ h1_ h2_ h3_ h4_ h5_ h6_ h7_ h8_ h9_ h10_ h11_)
have HO250 := am h0_; have HO253 := am h1_; replace BK245 := am h2_; replace BK246 := am h3_; have BK257 := am h4_; have GW257 := am h5_; have GE257 := am h6_; have NB245_257 := am h7_; have NB257_245 := am h8_; have NB246_257 := am h9_; have NB257_246 := am h10_; replace HB := am h11_
clear h0_ h1_ h2_ h3_ h4_ h5_ h6_ h7_ h8_ h9_ h10_ h11_
obtain ⟨Ao30, co30, eo30⟩ := Kd.R_slice HO253.out
(first | subst eo30 | (injection eo30 with f1_ f2_ f3_; have f4_ := f1_.symm; have f5_ := f3_.symm; clear f1_ f2_ f3_; subst f4_; subst f5_))
refine norm_ (a' := _) nr ?_
refine one_ (i := 7) (N := some 23) (bm 13 3071) rfl rfl (one_of HT_.out (by kernel_rfl)) (by decide) (fun K hK => ?_)
refine Kd.R_append_rows_step Kd.string (w0 := w) w.heap.size (by rfl) (.tmp 20) (.tmp 22) 24 9 (.string ⟨#[]⟩) 16 rfl Try.underlying24 info9 rfl (by decide) (by omega) v249 t248 y251 _ _ _ (fun k_ => some k_ ≠ (.slice Ao30 y251.length co30 : Value).ownBlock) (fun _ => False) rfl rfl ?aO ?aR (fun _ _ h => h) (fun _ h => h.elim) ?aF ?aB ?aS ?aL ?_
(case aR => repeat (first | exact (Kd.R_reads' HO253.out).2.2 | (with_reducible refine Kd.C_alloc ?_ _) | (with_reducible refine Kd.C_drewN ?_ _) | (with_reducible refine Kd.C_drew ?_)))
(case aB => exact (rb3 HB GE245 GE246 GE257))
(case aF => exact (fun k_ hk => Kd.fresh' (Kd.R_lt (rr HO253)) k_ hk))
(case aO => exact (rr HO250))
(case aS => exact (below_size (rb3 HB GE245 GE246 GE257)))
(case aL => have := LMc18.out; omega)
intro v255 w29 ho hb hg hat
rw [← Ny254.out] at ho
replace BK245 := am (blk_grown (rk BK245) hg (Kd.R_ne HO250.out BK245.out (by decide)))
replace BK246 := am (blk_grown (rk BK246) hg (Kd.R_ne HO250.out BK246.out (by decide)))
replace HO253 := am (Kd.R_after (ok := (fun _ => True)) (by (with_reducible repeat (first | apply r1 | apply r2 | apply r3)); exact Kd.R_mono HO253.out (fun _ hk => ⟨trivial, hk⟩)) hg hat)
replace BK257 := am (blk_grown (rk BK257) hg (Kd.R_ne HO250.out BK257.out (by decide)))
replace HB := am (hb)
have HO256 := am (ho)
clear HO250
clear ho hb hg hat
obtain ⟨Ao31, co31, eo31⟩ := Kd.R_slice HO256.out
(first | subst eo31 | (injection eo31 with f1_ f2_ f3_; have f4_ := f1_.symm; have f5_ := f3_.symm; clear f1_ f2_ f3_; subst f4_; subst f5_))
refine hK.out _ _ (bc3 BK245) (fun hHeld => ?_)
clear hK K
refine norm_ (a' := _) (show Act.put _ (some 23) _ = _ from na) ?_
refine pu_ 10 26 (bm 13 4095) HT_.out ?_
exact norm_ nz (hJ4_6_7_11 (v249, .slice Ao30 y251.length co30, .slice Ao31 y254.length co31, gb257) _ ⟨hHeld, (rrm HO253), (rr HO256), (rk BK245), (rk BK246), (rk BK257), GW257.out, GE257.out, NB245_257.out, NB257_245.out, NB246_257.out, NB257_246.out, (rb3 HB GE245 GE246 GE257)⟩)
)
)
·(
skip
rintro ⟨v249, v252, v255⟩ w30 ⟨hHeld, h0_, h1_, h2_, h3_, h4_⟩
(try dsimp only at hHeld h0_ h1_ h2_ h3_ h4_)
have HO253 := am h0_; have HO256 := am h1_; replace BK245 := am h2_; replace BK246 := am h3_; replace HB := am h4_
clear h0_ h1_ h2_ h3_ h4_
obtain ⟨Ao31, co31, eo31⟩ := Kd.R_slice HO256.out
(first | subst eo31 | (injection eo31 with f1_ f2_ f3_; have f4_ := f1_.symm; have f5_ := f3_.symm; clear f1_ f2_ f3_; subst f4_; subst f5_))
refine norm_ (a' := _) nr ?_
refine one_ (i := 11) (N := some 6) (bm 13 4095) rfl rfl (one_of HT_.out (by kernel_rfl)) (by decide) (fun K hK => ?_)
refine box_step ?hg (N := 6) ?hd (cs := #[.int .i64 0, .slice none 0 0, .int .i64 0]) (t := 26) ?hr ?_; (case hd => rfl); (case hg => rfl); (case hr => first | (go_simp; done) | (go_simp; rfl))
intro gb257 hg w32 hbox hb
replace HO253 := am (Kd.R_below (rr HO253) hb)
replace HO256 := am (Kd.R_below (rr HO256) hb)
have BK257 := am (hbox)
have GW257 := am (gw hg (rb2 HB GE245 GE246))
have GE257 := GW257
replace HB := am (below_step (rb2 HB GE245 GE246) hb)
have NB245_257 := am (nl hg (rk BK245))
have NB257_245 := am (ng hg (rk BK245))
replace BK245 := am (blk_below (rk BK245) hb)
have NB246_257 := am (nl hg (rk BK246))
have NB257_246 := am (ng hg (rk BK246))
replace BK246 := am (blk_below (rk BK246) hb)
clear hb hbox hg
refine hK.out _ _ (bc3 BK245) (fun hHeld => ?_)
clear hK K
refine norm_ (a' := _) (show Act.put _ (some 6) _ = _ from na) ?_
exact norm_ nz (hJ4_6_7_11 (v249, v252, .slice Ao31 y254.length co31, gb257) _ ⟨hHeld, (rr HO253), (rr HO256), (rk BK245), (rk BK246), (rk BK257), GW257.out, GE257.out, NB245_257.out, NB257_245.out, NB246_257.out, NB257_246.out, (rb3 HB GE245 GE246 GE257)⟩)
)
)
rintro ⟨v249, v252, v255, gb257⟩ w31 ⟨hHeld, h0_, h1_, h2_, h3_, h4_, h5_, h6_, h7_, h8_, h9_, h10_, h11_⟩
(try dsimp only at hHeld h0_ h1_ h2_ h3_ h4_ h5_ h6_ h7_ h8_ h9_ h10_ h11_)
have HO253 := am h0_; have HO256 := am h1_; replace BK245 := am h2_; replace BK246 := am h3_; have BK257 := am h4_; have GW257 := am h5_; have GE257 := am h6_; have NB245_257 := am h7_; have NB257_245 := am h8_; have NB246_257 := am h9_; have NB257_246 := am h10_; replace HB := am h11_
clear h0_ h1_ h2_ h3_ h4_ h5_ h6_ h7_ h8_ h9_ h10_ h11_
obtain ⟨Ao32, co32, eo32⟩ := Kd.R_slice HO256.out
(first | subst eo32 | (injection eo32 with f1_ f2_ f3_; have f4_ := f1_.symm; have f5_ := f3_.symm; clear f1_ f2_ f3_; subst f4_; subst f5_))
refine norm_ (a' := _) nr ?_
refine one_ (i := 12) (N := none) (bm 13 8191) rfl rfl (one_of HT_.out (by kernel_rfl)) (by decide) (fun K hK => ?_)
have hs33 : w31.cell? ⟨gb257, 0, none⟩ = some (.int .i64 0) := (blk_cell BK257.out 0).trans rfl
have hfs33 := blk_frozen BK257.out 0
have hns33_0 := NB245_257.out
have hns33_1 := NB246_257.out
have hms33_0 := NB257_245.out
have hms33_1 := NB257_246.out
have hs34 : w31.cell? ⟨gb257, 1, none⟩ = some (.slice none 0 0) := (blk_cell BK257.out 1).trans rfl
have hfs34 := blk_frozen BK257.out 1
have hns34_0 := NB245_257.out
have hns34_1 := NB246_257.out
have hms34_0 := NB257_245.out
have hms34_1 := NB257_246.out
have hs35 : w31.cell? ⟨gb257, 2, none⟩ = some (.int .i64 0) := (blk_cell BK257.out 2).trans rfl
have hfs35 := blk_frozen BK257.out 2
have hns35_0 := NB245_257.out
have hns35_1 := NB246_257.out
have hms35_0 := NB257_245.out
have hms35_1 := NB257_246.out
refine skip_ (w1 := ?_) (by rfl) rfl ?_ ?_
rotate_left
·(
go_simp
rfl
)
refine hK.out _ _ ⟨((cell_far (p := ⟨gb257, _, none⟩) NB245_257.out _).trans (((cell_far (p := ⟨gb257, _, none⟩) NB245_257.out _).trans (((cell_far (p := ⟨gb257, _, none⟩) NB245_257.out _).trans (hHeld.1)))))), ((cell_far (p := ⟨gb257, _, none⟩) NB245_257.out _).trans (((cell_far (p := ⟨gb257, _, none⟩) NB245_257.out _).trans (((cell_far (p := ⟨gb257, _, none⟩) NB245_257.out _).trans (hHeld.2.1)))))), ((cell_far (p := ⟨gb257, _, none⟩) NB245_257.out _).trans (((cell_far (p := ⟨gb257, _, none⟩) NB245_257.out _).trans (((cell_far (p := ⟨gb257, _, none⟩) NB245_257.out _).trans (hHeld.2.2))))))⟩ (fun hHeld => ?_)
clear hK K
refine done_ (done_of HT_.out (by kernel_rfl)) ?_
have n0_ : Aside0 (Kd.R Kd.string 9 (((w31.setCell ⟨gb257, 0, none⟩ (.int .i64 a0_0)).setCell ⟨gb257, 1, none⟩ (.slice Ao32 y254.length co32)).setCell ⟨gb257, 2, none⟩ (.int .i64 a0_2)) w.heap.size (fun k_ => some k_ ≠ (.slice Ao32 y254.length co32 : Value).ownBlock) v252 y251) := ⟨Rm3 HO253 BK257⟩
have n1_ : Aside0 (Kd.R Kd.string 9 (((w31.setCell ⟨gb257, 0, none⟩ (.int .i64 a0_0)).setCell ⟨gb257, 1, none⟩ (.slice Ao32 y254.length co32)).setCell ⟨gb257, 2, none⟩ (.int .i64 a0_2)) w.heap.size (fun k_ => some k_ ≠ (v252 : Value).ownBlock) (.slice Ao32 y254.length co32) y254) := ⟨Rm3 HO256 BK257⟩
have n2_ : Aside0 ((((w31.setCell ⟨gb257, 0, none⟩ (.int .i64 a0_0)).setCell ⟨gb257, 1, none⟩ (.slice Ao32 y254.length co32)).setCell ⟨gb257, 2, none⟩ (.int .i64 a0_2)).heap[gb245]? = some (.cells #[.int .i64 a0_0, .slice A0_1 l0_1.length c0_1, .int .i64 a0_2] 26 (0, 0))) := ⟨rf3 NB245_257 BK245⟩
have n3_ : Aside0 ((((w31.setCell ⟨gb257, 0, none⟩ (.int .i64 a0_0)).setCell ⟨gb257, 1, none⟩ (.slice Ao32 y254.length co32)).setCell ⟨gb257, 2, none⟩ (.int .i64 a0_2)).heap[gb246]? = some (.cells #[.int .i64 0, .slice none 0 0, .int .i64 0] 26 (0, 0))) := ⟨rf3 NB246_257 BK246⟩
have n4_ : Aside0 ((((w31.setCell ⟨gb257, 0, none⟩ (.int .i64 a0_0)).setCell ⟨gb257, 1, none⟩ (.slice Ao32 y254.length co32)).setCell ⟨gb257, 2, none⟩ (.int .i64 a0_2)).heap[gb257]? = some (.cells #[.int .i64 a0_0, .slice Ao32 y254.length co32, .int .i64 a0_2] 26 (0, 0))) := ⟨by (with_reducible repeat (first | apply k1 | apply k2 | apply k3)); refine blk_put (cs := #[.int .i64 a0_0, .slice Ao32 y254.length co32, .int .i64 0]) ?_ 2 _ rfl; (with_reducible repeat (first | apply k1 | apply k2 | apply k3)); refine blk_put (cs := #[.int .i64 a0_0, .slice none 0 0, .int .i64 0]) ?_ 1 _ rfl; (with_reducible repeat (first | apply k1 | apply k2 | apply k3)); refine blk_put (cs := #[.int .i64 0, .slice none 0 0, .int .i64 0]) ?_ 0 _ rfl; (with_reducible repeat (first | apply k1 | apply k2 | apply k3)); exact BK257.out⟩
have n5_ : Aside0 (Below w.heap.size w (((w31.setCell ⟨gb257, 0, none⟩ (.int .i64 a0_0)).setCell ⟨gb257, 1, none⟩ (.slice Ao32 y254.length co32)).setCell ⟨gb257, 2, none⟩ (.int .i64 a0_2))) := ⟨rb3 HB GE245 GE246 GE257⟩
(try clear HO253)
(try clear HO256)
(try clear BK245)
(try clear BK246)
(try clear BK257)
(try clear HB)
generalize (((w31.setCell ⟨gb257, 0, none⟩ (.int .i64 a0_0)).setCell ⟨gb257, 1, none⟩ (.slice Ao32 y254.length co32)).setCell ⟨gb257, 2, none⟩ (.int .i64 a0_2)) = w36 at n0_ n1_ n2_ n3_ n4_ n5_ ⊢
have HO253 := n0_
have HO256 := n1_
have BK245 := n2_
have BK246 := n3_
have BK257 := n4_
have HB := n5_
clear n0_ n1_ n2_ n3_ n4_ n5_
have hnb37 := NB257_245.out
have hnc37 := NB245_257.out
have hnb38 := NB257_246.out
have hnc38 := NB246_257.out
have hcz39_0 : w36.cell? ⟨gb257, 0, none⟩ = some (.int .i64 a0_0) := (blk_cell BK257.out 0).trans rfl
have hcz39_1 : w36.cell? ⟨gb257, 1, none⟩ = some (.slice Ao32 y254.length co32) := (blk_cell BK257.out 1).trans rfl
have hcz39_2 : w36.cell? ⟨gb257, 2, none⟩ = some (.int .i64 a0_2) := (blk_cell BK257.out 2).trans rfl
have hfz39_0 := blk_frozen BK257.out 0
have hfz39_1 := blk_frozen BK257.out 1
have hfz39_2 := blk_frozen BK257.out 2
have hnb40 := NB245_246.out
have hnc40 := NB246_245.out
have hcz41_0 : w36.cell? ⟨gb245, 0, none⟩ = some (.int .i64 a0_0) := (blk_cell BK245.out 0).trans rfl
have hcz41_1 : w36.cell? ⟨gb245, 1, none⟩ = some (.slice A0_1 l0_1.length c0_1) := (blk_cell BK245.out 1).trans rfl
have hcz41_2 : w36.cell? ⟨gb245, 2, none⟩ = some (.int .i64 a0_2) := (blk_cell BK245.out 2).trans rfl
have hfz41_0 := blk_frozen BK245.out 0
have hfz41_1 := blk_frozen BK245.out 1
have hfz41_2 := blk_frozen BK245.out 2
have q42 : (1 : Int) ≤ ((y254.length : Int) : Int) := dt_
obtain ⟨i042, hi042, _, hsz42, _⟩ := info_parts info9
have hroom42 : y254.length ≤ co32 := (Kd.R_reads' HO256.out).2.1
have hC42 : Kd.C Kd.string _ Ao32 y254.length y254 := (Kd.R_reads' HO256.out).2.2
have hcut42 := cut_from (P := Try.prog) 24 9 .i64 Try.underlying24 hi042 1 hsz42 Ao32 y254.length co32 1 (by omega) q42
have hr42 := Kd.C_drop (m := (1 : Int).toNat) (c := co32) hC42 (by omega) hroom42
obtain ⟨A42, hA42⟩ : ∃ A1, A1 = (if co32 = (1 : Int).toNat then Ao32 else (Ao32 : Option Addr).map (·.add ((1 : Int).toNat * 1))) := ⟨_, rfl⟩
obtain ⟨c42, hc42⟩ : ∃ c1, c1 = co32 - (1 : Int).toNat := ⟨_, rfl⟩
have hy42 : y258.length = y254.length - (1 : Int).toNat := (by rw [Ny258.out, List.length_drop] <;> omega)
rw [show (y254).drop (1 : Int).toNat = y258 from Ny258.out.symm] at hr42
replace hr42 : Kd.C Kd.string _ A42 y258.length y258 := (by rw [hA42]; exact hr42)
rw [← hy42, ← hA42, ← hc42] at hcut42
have HR261 := am hr42
have HC261 := am (show y258.length ≤ c42 from by rw [hy42, hc42]; exact Nat.sub_le_sub_right hroom42 _)
clear hr42 hC42 hroom42 hi042 hsz42 hc42
have KY42 := am hy42
have KA42 := am hA42
clear hy42 hA42
have KL42 := am (show 1 ≤ y254.length from by omega)
replace q42 := eq_true q42
try go_wp2_with (first | ((with_reducible refine gate_callee (f := 53) rfl ?_); refine gl_ (some 36) Try.func53 #[.slice A42 y258.length c42] ?_; (with_reducible refine (slices_Clone_string_string.calls _ _ y258 t262 _ ?side1 ?side2 A21.out).mono ?_); (case side1 => repeat (first | exact (by repeat (first | (with_reducible exact HR261.out) | (with_reducible refine Kd.C_alloc ?_ _) | (with_reducible refine Kd.C_drewN ?_ _) | (with_reducible refine Kd.C_drew ?_) | exact HR261.out)) | (with_reducible refine Kd.C_alloc ?_ _) | (with_reducible refine Kd.C_drewN ?_ _) | (with_reducible refine Kd.C_drew ?_))); (case side2 => exact HC261.out); rintro e w43 ⟨v263, rfl, ho0, hb⟩; refine ⟨_, rfl, ?_⟩; have HO264 := am (Kd.R_lower (Kd.R_new' (Kd.R_new' ho0 (Kd.R_lt (rr HO253))) (Kd.R_lt (rr HO256))) (below_size (rb3 HB GE245 GE246 GE257))); replace HO253 := am (Kd.R_elder' (rr HO253) (Kd.R_base ho0) hb); replace HO256 := am (Kd.R_elder' (rr HO256) (Kd.R_base ho0) hb); replace BK245 := am (blk_below (rk BK245) hb); replace BK246 := am (blk_below (rk BK246) hb); replace BK257 := am (blk_below (rk BK257) hb); replace HR261 := am (Kd.C_below (by repeat (first | (with_reducible exact HR261.out) | (with_reducible refine Kd.C_alloc ?_ _) | (with_reducible refine Kd.C_drewN ?_ _) | (with_reducible refine Kd.C_drew ?_) | exact HR261.out)) hb); replace HB := am (below_step (rb3 HB GE245 GE246 GE257) hb); (try clear hb); (try clear hb2); (try clear hk); (try clear hi); (try clear ho0); obtain ⟨Ao44, co44, eo44⟩ := Kd.R_slice HO264.out; subst eo44; have hcz45_0 : w43.cell? ⟨gb257, 0, none⟩ = some (.int .i64 a0_0) := (blk_cell BK257.out 0).trans rfl; have hcz45_1 : w43.cell? ⟨gb257, 1, none⟩ = some (.slice Ao32 y254.length co32) := (blk_cell BK257.out 1).trans rfl; have hcz45_2 : w43.cell? ⟨gb257, 2, none⟩ = some (.int .i64 a0_2) := (blk_cell BK257.out 2).trans rfl; have hfz45_0 := blk_frozen BK257.out 0; have hfz45_1 := blk_frozen BK257.out 1; have hfz45_2 := blk_frozen BK257.out 2; have hcz46_0 : w43.cell? ⟨gb246, 0, none⟩ = some (.int .i64 0) := (blk_cell BK246.out 0).trans rfl; have hcz46_1 : w43.cell? ⟨gb246, 1, none⟩ = some (.slice none 0 0) := (blk_cell BK246.out 1).trans rfl; have hcz46_2 : w43.cell? ⟨gb246, 2, none⟩ = some (.int .i64 0) := (blk_cell BK246.out 2).trans rfl; have hfz46_0 := blk_frozen BK246.out 0; have hfz46_1 := blk_frozen BK246.out 1; have hfz46_2 := blk_frozen BK246.out 2))
refine bodyPost_ret (results_ct rfl _ _ gb246 26 #[.int .i64 0, .slice none 0 0, .int .i64 0] (0, 0) _ rfl (by (with_reducible repeat (first | apply k1 | apply k2 | apply k3)); refine blk_put (cs := #[.int .i64 0, .slice none 0 0, .int .i64 0]) ?_ 2 _ rfl; (with_reducible repeat (first | apply k1 | apply k2 | apply k3)); refine blk_put (cs := #[.int .i64 0, .slice none 0 0, .int .i64 0]) ?_ 1 _ rfl; (with_reducible repeat (first | apply k1 | apply k2 | apply k3)); refine blk_put (cs := #[.int .i64 0, .slice none 0 0, .int .i64 0]) ?_ 0 _ rfl; (with_reducible repeat (first | apply k1 | apply k2 | apply k3)); refine blk_far ?_ NB246_257.out _; (with_reducible repeat (first | apply k1 | apply k2 | apply k3)); refine blk_far ?_ NB246_257.out _; (with_reducible repeat (first | apply k1 | apply k2 | apply k3)); exact BK246.out) Try.underlying26 rfl (by kernel_rfl)) rfl ?_
exact ⟨_, by first | rfl | (simp [errW_none, errW_some] <;> rfl) | (simp [*, errW_none, errW_some] <;> rfl), by first | exact Kd.R_nil _ _ _ _ _ | exact Kd.N_nil _ _ _ _ _ | exact Kd.V_nil _ _ _ _ _ | exact Kd.Q_nil _ _ _ _ _ | exact Kd.S_nil _ _ _ _ _, rb3 HB GE245 GE246 GE257⟩
)
·(
rw [if_neg c22] at H
have c22b0 : decide (1000000 < (wrap64 (a0_2 + 1))) = false := decide_eq_false c22
clear c22
simp only [Option.some.injEq, Prod.mk.injEq] at H
obtain ⟨rfl, rfl, rfl, rfl⟩ := H
try go_wp2
replace BK245 := am (blk_drew BK245.out)
replace BK246 := am (blk_drew BK246.out)
replace HB := am (below_drew1 HB.out)
refine start_ (n := 13) (S := fun w' => w'.cell? ⟨gb245, 0, none⟩ = some (.int .i64 a0_0) ∧ w'.cell? ⟨gb245, 1, none⟩ = some (.slice A0_1 l0_1.length c0_1) ∧ w'.cell? ⟨gb245, 2, none⟩ = some (.int .i64 a0_2)) (ds := []) (bm 13 0) (by kernel_rfl) rfl rfl (bc3 BK245) (fun hHeld => ?_); refine with_tabW impl_Keep.tab3 impl_Keep.bits3 (fun HT_ HW_ => ?_)
generalize wc.drew = w47 at BK245 BK246 HB hHeld ⊢
refine pu_ 0 16 (bm 13 1) HT_.out ?_
refine pu_ 2 18 (bm 13 5) HT_.out ?_
refine pu_ 5 21 (bm 13 37) HT_.out ?_
refine pu_ 8 24 (bm 13 293) HT_.out ?_
refine take_ (i := 1) (N := some 17) (v := ?_) (a' := ?_) (bm 13 295) rfl rfl (take_ofW HT_.out HW_.out (by kernel_rfl)) (fun _ _ _ h => h) (Or.inl ⟨by rfl, ?_⟩) hHeld ?_ ?_
rotate_left
·(
rintro w' ⟨s0, s1, s2⟩
go_simp
with_reducible rfl
)
rotate_left
·(
simp only [Act.put, List.setIfInBounds_toArray, List.set_cons_zero, List.set_cons_succ, i64_w, i32_w]
rfl
)
refine take_ (i := 3) (N := some 19) (v := ?_) (a' := ?_) (bm 13 303) rfl rfl (take_ofW HT_.out HW_.out (by kernel_rfl)) (fun _ _ _ h => h) (Or.inl ⟨by rfl, ?_⟩) hHeld ?_ ?_
rotate_left
·(
rintro w' ⟨s0, s1, s2⟩
go_simp
with_reducible rfl
)
rotate_left
·(
simp only [Act.put, List.setIfInBounds_toArray, List.set_cons_zero, List.set_cons_succ, i64_w, i32_w]
rfl
)
refine take_ (i := 9) (N := some 25) (v := ?_) (a' := ?_) (bm 13 815) rfl rfl (take_ofW HT_.out HW_.out (by kernel_rfl)) (fun _ _ _ h => h) (Or.inl ⟨by rfl, ?_⟩) hHeld ?_ ?_
rotate_left
·(
rintro w' ⟨s0, s1, s2⟩
go_simp
with_reducible rfl
)
rotate_left
·(
simp only [Act.put, List.setIfInBounds_toArray, List.set_cons_zero, List.set_cons_succ, i64_w, i32_w]
rfl
)
refine join_ (σ := Value × Value × Value × Nat) 1 (bm 13 4095) (fun s_ => [(20, s_.1), (22, s_.2.1), (23, s_.2.2.1), (6, .pointer (some ⟨s_.2.2.2, 0, none⟩)), (26, .agg #[.int .i64 a0_0, s_.2.2.1, .int .i64 a0_2])]) (fun s_ w' => (w'.cell? ⟨gb245, 0, none⟩ = some (.int .i64 a0_0) ∧ w'.cell? ⟨gb245, 1, none⟩ = some (.slice A0_1 l0_1.length c0_1) ∧ w'.cell? ⟨gb245, 2, none⟩ = some (.int .i64 a0_2)) ∧ (Kd.R Kd.string 9 w' w.heap.size (fun k_ => some k_ ≠ (s_.2.2.1 : Value).ownBlock) s_.2.1 y251) ∧ (Kd.R Kd.string 9 w' w.heap.size (fun k_ => some k_ ≠ (s_.2.1 : Value).ownBlock) s_.2.2.1 y254) ∧ (w'.heap[gb245]? = some (.cells #[.int .i64 a0_0, .slice A0_1 l0_1.length c0_1, .int .i64 a0_2] 26 (0, 0))) ∧ (w'.heap[gb246]? = some (.cells #[.int .i64 0, .slice none 0 0, .int .i64 0] 26 (0, 0))) ∧ (w'.heap[s_.2.2.2]? = some (.cells #[.int .i64 0, .slice none 0 0, .int .i64 0] 26 (0, 0))) ∧ (w.heap.size ≤ s_.2.2.2) ∧ (w.heap.size ≤ s_.2.2.2) ∧ (gb245 ≠ s_.2.2.2) ∧ (s_.2.2.2 ≠ gb245) ∧ (gb246 ≠ s_.2.2.2) ∧ (s_.2.2.2 ≠ gb246) ∧ (Below w.heap.size w w')) ?_ ?_
rotate_left
·(
intro hJ4_6_7_11
refine join_ (σ := Value × Value × Value) 2 (bm 13 2047) (fun s_ => [(20, s_.1), (22, s_.2.1), (23, s_.2.2), (26, .agg #[.int .i64 a0_0, s_.2.2, .int .i64 a0_2])]) (fun s_ w' => (w'.cell? ⟨gb245, 0, none⟩ = some (.int .i64 a0_0) ∧ w'.cell? ⟨gb245, 1, none⟩ = some (.slice A0_1 l0_1.length c0_1) ∧ w'.cell? ⟨gb245, 2, none⟩ = some (.int .i64 a0_2)) ∧ (Kd.R Kd.string 9 w' w.heap.size (fun k_ => some k_ ≠ (s_.2.2 : Value).ownBlock) s_.2.1 y251) ∧ (Kd.R Kd.string 9 w' w.heap.size (fun k_ => some k_ ≠ (s_.2.1 : Value).ownBlock) s_.2.2 y254) ∧ (w'.heap[gb245]? = some (.cells #[.int .i64 a0_0, .slice A0_1 l0_1.length c0_1, .int .i64 a0_2] 26 (0, 0))) ∧ (w'.heap[gb246]? = some (.cells #[.int .i64 0, .slice none 0 0, .int .i64 0] 26 (0, 0))) ∧ (Below w.heap.size w w')) ?_ ?_
rotate_left
·(
intro hJ4_6_7
refine join_ (σ := Value × Value × Nat) 3 (bm 13 2943) (fun s_ => [(20, s_.1), (22, s_.2.1), (6, .pointer (some ⟨s_.2.2, 0, none⟩))]) (fun s_ w' => (w'.cell? ⟨gb245, 0, none⟩ = some (.int .i64 a0_0) ∧ w'.cell? ⟨gb245, 1, none⟩ = some (.slice A0_1 l0_1.length c0_1) ∧ w'.cell? ⟨gb245, 2, none⟩ = some (.int .i64 a0_2)) ∧ (Kd.R Kd.string 9 w' w.heap.size (fun k_ => some k_ ≠ (s_.2.1 : Value).ownBlock) s_.1 t248) ∧ (Kd.R Kd.string 9 w' w.heap.size (fun k_ => some k_ ≠ (s_.1 : Value).ownBlock) s_.2.1 y251) ∧ (w'.heap[gb245]? = some (.cells #[.int .i64 a0_0, .slice A0_1 l0_1.length c0_1, .int .i64 a0_2] 26 (0, 0))) ∧ (w'.heap[gb246]? = some (.cells #[.int .i64 0, .slice none 0 0, .int .i64 0] 26 (0, 0))) ∧ (w'.heap[s_.2.2]? = some (.cells #[.int .i64 0, .slice none 0 0, .int .i64 0] 26 (0, 0))) ∧ (w.heap.size ≤ s_.2.2) ∧ (w.heap.size ≤ s_.2.2) ∧ (gb245 ≠ s_.2.2) ∧ (s_.2.2 ≠ gb245) ∧ (gb246 ≠ s_.2.2) ∧ (s_.2.2 ≠ gb246) ∧ (Below w.heap.size w w')) ?_ ?_
rotate_left
·(
intro hJ4_6_11
refine join_ (σ := Value × Value) 4 (bm 13 895) (fun s_ => [(20, s_.1), (22, s_.2)]) (fun s_ w' => (w'.cell? ⟨gb245, 0, none⟩ = some (.int .i64 a0_0) ∧ w'.cell? ⟨gb245, 1, none⟩ = some (.slice A0_1 l0_1.length c0_1) ∧ w'.cell? ⟨gb245, 2, none⟩ = some (.int .i64 a0_2)) ∧ (Kd.R Kd.string 9 w' w.heap.size (fun k_ => some k_ ≠ (s_.2 : Value).ownBlock) s_.1 t248) ∧ (Kd.R Kd.string 9 w' w.heap.size (fun k_ => some k_ ≠ (s_.1 : Value).ownBlock) s_.2 y251) ∧ (w'.heap[gb245]? = some (.cells #[.int .i64 a0_0, .slice A0_1 l0_1.length c0_1, .int .i64 a0_2] 26 (0, 0))) ∧ (w'.heap[gb246]? = some (.cells #[.int .i64 0, .slice none 0 0, .int .i64 0] 26 (0, 0))) ∧ (Below w.heap.size w w')) ?_ ?_
rotate_left
·(
intro hJ4_6
refine join_ (σ := Value × Nat) 4 (bm 13 2879) (fun s_ => [(20, s_.1), (6, .pointer (some ⟨s_.2, 0, none⟩))]) (fun s_ w' => (w'.cell? ⟨gb245, 0, none⟩ = some (.int .i64 a0_0) ∧ w'.cell? ⟨gb245, 1, none⟩ = some (.slice A0_1 l0_1.length c0_1) ∧ w'.cell? ⟨gb245, 2, none⟩ = some (.int .i64 a0_2)) ∧ (Kd.R Kd.string 9 w' w.heap.size (fun _ => True) s_.1 t248) ∧ (w'.heap[gb245]? = some (.cells #[.int .i64 a0_0, .slice A0_1 l0_1.length c0_1, .int .i64 a0_2] 26 (0, 0))) ∧ (w'.heap[gb246]? = some (.cells #[.int .i64 0, .slice none 0 0, .int .i64 0] 26 (0, 0))) ∧ (w'.heap[s_.2]? = some (.cells #[.int .i64 0, .slice none 0 0, .int .i64 0] 26 (0, 0))) ∧ (w.heap.size ≤ s_.2) ∧ (w.heap.size ≤ s_.2) ∧ (gb245 ≠ s_.2) ∧ (s_.2 ≠ gb245) ∧ (gb246 ≠ s_.2) ∧ (s_.2 ≠ gb246) ∧ (Below w.heap.size w w')) ?_ ?_
rotate_left
·(
intro hJ4_11
refine join_ (σ := Value × Nat) 4 (bm 13 2927) (fun s_ => [(22, s_.1), (6, .pointer (some ⟨s_.2, 0, none⟩))]) (fun s_ w' => (w'.cell? ⟨gb245, 0, none⟩ = some (.int .i64 a0_0) ∧ w'.cell? ⟨gb245, 1, none⟩ = some (.slice A0_1 l0_1.length c0_1) ∧ w'.cell? ⟨gb245, 2, none⟩ = some (.int .i64 a0_2)) ∧ (Kd.R Kd.string 9 w' w.heap.size (fun _ => True) s_.1 y251) ∧ (w'.heap[gb245]? = some (.cells #[.int .i64 a0_0, .slice A0_1 l0_1.length c0_1, .int .i64 a0_2] 26 (0, 0))) ∧ (w'.heap[gb246]? = some (.cells #[.int .i64 0, .slice none 0 0, .int .i64 0] 26 (0, 0))) ∧ (w'.heap[s_.2]? = some (.cells #[.int .i64 0, .slice none 0 0, .int .i64 0] 26 (0, 0))) ∧ (w.heap.size ≤ s_.2) ∧ (w.heap.size ≤ s_.2) ∧ (gb245 ≠ s_.2) ∧ (s_.2 ≠ gb245) ∧ (gb246 ≠ s_.2) ∧ (s_.2 ≠ gb246) ∧ (Below w.heap.size w w')) ?_ ?_
rotate_left
·(
intro hJ6_11
refine join_ (σ := Value) 5 (bm 13 831) (fun s_ => [(20, s_)]) (fun s_ w' => (w'.cell? ⟨gb245, 0, none⟩ = some (.int .i64 a0_0) ∧ w'.cell? ⟨gb245, 1, none⟩ = some (.slice A0_1 l0_1.length c0_1) ∧ w'.cell? ⟨gb245, 2, none⟩ = some (.int .i64 a0_2)) ∧ (Kd.R Kd.string 9 w' w.heap.size (fun _ => True) s_ t248) ∧ (w'.heap[gb245]? = some (.cells #[.int .i64 a0_0, .slice A0_1 l0_1.length c0_1, .int .i64 a0_2] 26 (0, 0))) ∧ (w'.heap[gb246]? = some (.cells #[.int .i64 0, .slice none 0 0, .int .i64 0] 26 (0, 0))) ∧ (Below w.heap.size w w')) ?_ ?_
rotate_left
·(
intro hJ4
refine join_ (σ := Value) 5 (bm 13 879) (fun s_ => [(22, s_)]) (fun s_ w' => (w'.cell? ⟨gb245, 0, none⟩ = some (.int .i64 a0_0) ∧ w'.cell? ⟨gb245, 1, none⟩ = some (.slice A0_1 l0_1.length c0_1) ∧ w'.cell? ⟨gb245, 2, none⟩ = some (.int .i64 a0_2)) ∧ (Kd.R Kd.string 9 w' w.heap.size (fun _ => True) s_ y251) ∧ (w'.heap[gb245]? = some (.cells #[.int .i64 a0_0, .slice A0_1 l0_1.length c0_1, .int .i64 a0_2] 26 (0, 0))) ∧ (w'.heap[gb246]? = some (.cells #[.int .i64 0, .slice none 0 0, .int .i64 0] 26 (0, 0))) ∧ (Below w.heap.size w w')) ?_ ?_
rotate_left
·(
intro hJ6
refine join_ (σ := Nat) 5 (bm 13 2863) (fun s_ => [(6, .pointer (some ⟨s_, 0, none⟩))]) (fun s_ w' => (w'.cell? ⟨gb245, 0, none⟩ = some (.int .i64 a0_0) ∧ w'.cell? ⟨gb245, 1, none⟩ = some (.slice A0_1 l0_1.length c0_1) ∧ w'.cell? ⟨gb245, 2, none⟩ = some (.int .i64 a0_2)) ∧ (w'.heap[gb245]? = some (.cells #[.int .i64 a0_0, .slice A0_1 l0_1.length c0_1, .int .i64 a0_2] 26 (0, 0))) ∧ (w'.heap[gb246]? = some (.cells #[.int .i64 0, .slice none 0 0, .int .i64 0] 26 (0, 0))) ∧ (w'.heap[s_]? = some (.cells #[.int .i64 0, .slice none 0 0, .int .i64 0] 26 (0, 0))) ∧ (w.heap.size ≤ s_) ∧ (w.heap.size ≤ s_) ∧ (gb245 ≠ s_) ∧ (s_ ≠ gb245) ∧ (gb246 ≠ s_) ∧ (s_ ≠ gb246) ∧ (Below w.heap.size w w')) ?_ ?_
rotate_left
·(
intro hJ11
refine three_ (i := 4) (j := 6) (k := 11) (Ni := some 20) (Nj := some 22) (Nk := some 6) (bm 13 831) (bm 13 879) (bm 13 2863) rfl rfl rfl rfl rfl rfl (three_of HT_.out (by kernel_rfl)) (by decide) (by decide) (by decide) (fun K hK => ?_) (fun K hK => ?_) (fun K hK => ?_)
·(
skip
refine goes_ Try.func53 (by kernel_rfl) rfl #[.slice A0_1 l0_1.length c0_1] (by rfl) rfl rfl mt ?_
with_reducible refine (slices_Clone_string_string.calls _ _ l0_1 t248 _ ?side1 ?side2 A17.out).mono ?_
(case side1 => exact rc ((Kd.C_below HR0_1.out HB.out)))
(case side2 => exact HC0_1.out)
rintro e w48 ⟨v249, rfl, ho0, hb⟩
refine ⟨_, rfl, ?_⟩
have HO250 := am (Kd.R_lower ho0 (below_size (rb2 HB GE245 GE246)))
replace BK245 := am (blk_below (rk BK245) hb)
replace BK246 := am (blk_below (rk BK246) hb)
replace HB := am (below_step (rb2 HB GE245 GE246) hb)
(try clear hb)
(try clear ho0)
refine hK.out _ _ (bc3 BK245) (fun hHeld => ?_)
clear hK K
refine norm_ (a' := _) (show Act.put _ (some 20) _ = _ from na) ?_
exact norm_ nz (hJ4 (v249) _ ⟨hHeld, (rr HO250), (rk BK245), (rk BK246), (rb2 HB GE245 GE246)⟩)
)
·(
skip
refine Kd.R_lit_step Kd.string _ 9 ?hg (N := 22) ?hd (xs := ([a1] : List ByteArray)) (inner := [.string a1]) (ok := fun _ => True) (okp := fun _ => True) ?hr ?hp (fun _ hk => hk) trivial (Below.refl _ _) (Nat.le_refl _) (by simp) ?_; (case hd => rfl); (case hg => rfl); (case hr => first | (go_simp; done) | (go_simp; rfl)); (case hp => exact (Reps.one (show Kd.M Kd.string _ _ _ a1 [.string a1] from rfl) (Reps.none _ _)))
intro v252 w48 ho49 hb hg_ hnew_
clear hg_ hnew_
(first | rw [← Ny251.out] at ho49 | (simp only [Int.reduceToNat] at ho49; rw [← Ny251.out] at ho49))
have HO253 := am (Kd.R_lower ho49 (below_size (rb2 HB GE245 GE246)))
replace BK245 := am (blk_below (rk BK245) hb)
replace BK246 := am (blk_below (rk BK246) hb)
replace HB := am (below_step (rb2 HB GE245 GE246) hb)
clear hb ho49
refine hK.out _ _ (bc3 BK245) (fun hHeld => ?_)
clear hK K
refine norm_ (a' := _) (show Act.put _ (some 22) _ = _ from na) ?_
exact norm_ nz (hJ6 (v252) _ ⟨hHeld, (rr HO253), (rk BK245), (rk BK246), (rb2 HB GE245 GE246)⟩)
)
·(
skip
refine box_step ?hg (N := 6) ?hd (cs := #[.int .i64 0, .slice none 0 0, .int .i64 0]) (t := 26) ?hr ?_; (case hd => rfl); (case hg => rfl); (case hr => first | (go_simp; done) | (go_simp; rfl))
intro gb257 hg w48 hbox hb
have BK257 := am (hbox)
have GW257 := am (gw hg (rb2 HB GE245 GE246))
have GE257 := GW257
replace HB := am (below_step (rb2 HB GE245 GE246) hb)
have NB245_257 := am (nl hg (rk BK245))
have NB257_245 := am (ng hg (rk BK245))
replace BK245 := am (blk_below (rk BK245) hb)
have NB246_257 := am (nl hg (rk BK246))
have NB257_246 := am (ng hg (rk BK246))
replace BK246 := am (blk_below (rk BK246) hb)
clear hb hbox hg
refine hK.out _ _ (bc3 BK245) (fun hHeld => ?_)
clear hK K
refine norm_ (a' := _) (show Act.put _ (some 6) _ = _ from na) ?_
exact norm_ nz (hJ11 (gb257) _ ⟨hHeld, (rk BK245), (rk BK246), (rk BK257), GW257.out, GE257.out, NB245_257.out, NB257_245.out, NB246_257.out, NB257_246.out, (rb3 HB GE245 GE246 GE257)⟩)
)
)
·(
skip
rintro gb257 w49 ⟨hHeld, h0_, h1_, h2_, h3_, h4_, h5_, h6_, h7_, h8_, h9_⟩
(try dsimp only at hHeld h0_ h1_ h2_ h3_ h4_ h5_ h6_ h7_ h8_ h9_)
replace BK245 := am h0_; replace BK246 := am h1_; have BK257 := am h2_; have GW257 := am h3_; have GE257 := am h4_; have NB245_257 := am h5_; have NB257_245 := am h6_; have NB246_257 := am h7_; have NB257_246 := am h8_; replace HB := am h9_
clear h0_ h1_ h2_ h3_ h4_ h5_ h6_ h7_ h8_ h9_
refine norm_ (a' := _) nr ?_
refine two_ (i := 4) (j := 6) (Ni := some 20) (Nj := some 22) (bm 13 2879) (bm 13 2927) rfl rfl rfl rfl (two_of HT_.out (by kernel_rfl)) (by decide) (by decide) (fun K hK => ?_) (fun K hK => ?_)
·(
skip
refine goes_ Try.func53 (by kernel_rfl) rfl #[.slice A0_1 l0_1.length c0_1] (by rfl) rfl rfl mt ?_
with_reducible refine (slices_Clone_string_string.calls _ _ l0_1 t248 _ ?side1 ?side2 A17.out).mono ?_
(case side1 => exact rc ((Kd.C_below HR0_1.out HB.out)))
(case side2 => exact HC0_1.out)
rintro e w50 ⟨v249, rfl, ho0, hb⟩
refine ⟨_, rfl, ?_⟩
have HO250 := am (Kd.R_lower ho0 (below_size (rb3 HB GE245 GE246 GE257)))
replace BK245 := am (blk_below (rk BK245) hb)
replace BK246 := am (blk_below (rk BK246) hb)
replace BK257 := am (blk_below (rk BK257) hb)
replace HB := am (below_step (rb3 HB GE245 GE246 GE257) hb)
(try clear hb)
(try clear ho0)
refine hK.out _ _ (bc3 BK245) (fun hHeld => ?_)
clear hK K
refine norm_ (a' := _) (show Act.put _ (some 20) _ = _ from na) ?_
exact norm_ nz (hJ4_11 (v249, gb257) _ ⟨hHeld, (rr HO250), (rk BK245), (rk BK246), (rk BK257), GW257.out, GE257.out, NB245_257.out, NB257_245.out, NB246_257.out, NB257_246.out, (rb3 HB GE245 GE246 GE257)⟩)
)
·(
skip
refine Kd.R_lit_step Kd.string _ 9 ?hg (N := 22) ?hd (xs := ([a1] : List ByteArray)) (inner := [.string a1]) (ok := fun _ => True) (okp := fun _ => True) ?hr ?hp (fun _ hk => hk) trivial (Below.refl _ _) (Nat.le_refl _) (by simp) ?_; (case hd => rfl); (case hg => rfl); (case hr => first | (go_simp; done) | (go_simp; rfl)); (case hp => exact (Reps.one (show Kd.M Kd.string _ _ _ a1 [.string a1] from rfl) (Reps.none _ _)))
intro v252 w50 ho51 hb hg_ hnew_
clear hg_ hnew_
(first | rw [← Ny251.out] at ho51 | (simp only [Int.reduceToNat] at ho51; rw [← Ny251.out] at ho51))
have HO253 := am (Kd.R_lower ho51 (below_size (rb3 HB GE245 GE246 GE257)))
replace BK245 := am (blk_below (rk BK245) hb)
replace BK246 := am (blk_below (rk BK246) hb)
replace BK257 := am (blk_below (rk BK257) hb)
replace HB := am (below_step (rb3 HB GE245 GE246 GE257) hb)
clear hb ho51
refine hK.out _ _ (bc3 BK245) (fun hHeld => ?_)
clear hK K
refine norm_ (a' := _) (show Act.put _ (some 22) _ = _ from na) ?_
exact norm_ nz (hJ6_11 (v252, gb257) _ ⟨hHeld, (rr HO253), (rk BK245), (rk BK246), (rk BK257), GW257.out, GE257.out, NB245_257.out, NB257_245.out, NB246_257.out, NB257_246.out, (rb3 HB GE245 GE246 GE257)⟩)
)
)
)
·(
skip
rintro v252 w50 ⟨hHeld, h0_, h1_, h2_, h3_⟩
(try dsimp only at hHeld h0_ h1_ h2_ h3_)
have HO253 := am h0_; replace BK245 := am h1_; replace BK246 := am h2_; replace HB := am h3_
clear h0_ h1_ h2_ h3_
refine norm_ (a' := _) nr ?_
refine two_ (i := 4) (j := 11) (Ni := some 20) (Nj := some 6) (bm 13 895) (bm 13 2927) rfl rfl rfl rfl (two_of HT_.out (by kernel_rfl)) (by decide) (by decide) (fun K hK => ?_) (fun K hK => ?_)
·(
skip
refine goes_ Try.func53 (by kernel_rfl) rfl #[.slice A0_1 l0_1.length c0_1] (by rfl) rfl rfl mt ?_
with_reducible refine (slices_Clone_string_string.calls _ _ l0_1 t248 _ ?side1 ?side2 A17.out).mono ?_
(case side1 => exact rc ((Kd.C_below HR0_1.out HB.out)))
(case side2 => exact HC0_1.out)
rintro e w51 ⟨v249, rfl, ho0, hb⟩
refine ⟨_, rfl, ?_⟩
have HO250 := am (Kd.R_lower (Kd.R_new' ho0 (Kd.R_lt (rr HO253))) (below_size (rb2 HB GE245 GE246)))
replace HO253 := am (Kd.R_elder' (rr HO253) (Kd.R_base ho0) hb)
replace BK245 := am (blk_below (rk BK245) hb)
replace BK246 := am (blk_below (rk BK246) hb)
replace HB := am (below_step (rb2 HB GE245 GE246) hb)
(try clear hb)
(try clear ho0)
refine hK.out _ _ (bc3 BK245) (fun hHeld => ?_)
clear hK K
refine norm_ (a' := _) (show Act.put _ (some 20) _ = _ from na) ?_
exact norm_ nz (hJ4_6 (v249, v252) _ ⟨hHeld, (rrm HO250), (rrm HO253), (rk BK245), (rk BK246), (rb2 HB GE245 GE246)⟩)
)
·(
skip
refine box_step ?hg (N := 6) ?hd (cs := #[.int .i64 0, .slice none 0 0, .int .i64 0]) (t := 26) ?hr ?_; (case hd => rfl); (case hg => rfl); (case hr => first | (go_simp; done) | (go_simp; rfl))
intro gb257 hg w51 hbox hb
replace HO253 := am (Kd.R_below (rr HO253) hb)
have BK257 := am (hbox)
have GW257 := am (gw hg (rb2 HB GE245 GE246))
have GE257 := GW257
replace HB := am (below_step (rb2 HB GE245 GE246) hb)
have NB245_257 := am (nl hg (rk BK245))
have NB257_245 := am (ng hg (rk BK245))
replace BK245 := am (blk_below (rk BK245) hb)
have NB246_257 := am (nl hg (rk BK246))
have NB257_246 := am (ng hg (rk BK246))
replace BK246 := am (blk_below (rk BK246) hb)
clear hb hbox hg
refine hK.out _ _ (bc3 BK245) (fun hHeld => ?_)
clear hK K
refine norm_ (a' := _) (show Act.put _ (some 6) _ = _ from na) ?_
exact norm_ nz (hJ6_11 (v252, gb257) _ ⟨hHeld, (rr HO253), (rk BK245), (rk BK246), (rk BK257), GW257.out, GE257.out, NB245_257.out, NB257_245.out, NB246_257.out, NB257_246.out, (rb3 HB GE245 GE246 GE257)⟩)
)
)
)
·(
skip
rintro v249 w49 ⟨hHeld, h0_, h1_, h2_, h3_⟩
(try dsimp only at hHeld h0_ h1_ h2_ h3_)
have HO250 := am h0_; replace BK245 := am h1_; replace BK246 := am h2_; replace HB := am h3_
clear h0_ h1_ h2_ h3_
refine norm_ (a' := _) nr ?_
refine two_ (i := 6) (j := 11) (Ni := some 22) (Nj := some 6) (bm 13 895) (bm 13 2879) rfl rfl rfl rfl (two_of HT_.out (by kernel_rfl)) (by decide) (by decide) (fun K hK => ?_) (fun K hK => ?_)
·(
skip
refine Kd.R_lit_step Kd.string _ 9 ?hg (N := 22) ?hd (xs := ([a1] : List ByteArray)) (inner := [.string a1]) (ok := fun _ => True) (okp := fun _ => True) ?hr ?hp (fun _ hk => hk) trivial (Below.refl _ _) (Nat.le_refl _) (by simp) ?_; (case hd => rfl); (case hg => rfl); (case hr => first | (go_simp; done) | (go_simp; rfl)); (case hp => exact (Reps.one (show Kd.M Kd.string _ _ _ a1 [.string a1] from rfl) (Reps.none _ _)))
intro v252 w50 ho51 hb hg_ hnew_
clear hg_ hnew_
(first | rw [← Ny251.out] at ho51 | (simp only [Int.reduceToNat] at ho51; rw [← Ny251.out] at ho51))
have HO253 := am (Kd.R_lower (Kd.R_new' ho51 (Kd.R_lt (rr HO250))) (below_size (rb2 HB GE245 GE246)))
replace HO250 := am (Kd.R_elder' (rr HO250) (Kd.R_base ho51) hb)
replace BK245 := am (blk_below (rk BK245) hb)
replace BK246 := am (blk_below (rk BK246) hb)
replace HB := am (below_step (rb2 HB GE245 GE246) hb)
clear hb ho51
refine hK.out _ _ (bc3 BK245) (fun hHeld => ?_)
clear hK K
refine norm_ (a' := _) (show Act.put _ (some 22) _ = _ from na) ?_
exact norm_ nz (hJ4_6 (v249, v252) _ ⟨hHeld, (rrm HO250), (rrm HO253), (rk BK245), (rk BK246), (rb2 HB GE245 GE246)⟩)
)
·(
skip
refine box_step ?hg (N := 6) ?hd (cs := #[.int .i64 0, .slice none 0 0, .int .i64 0]) (t := 26) ?hr ?_; (case hd => rfl); (case hg => rfl); (case hr => first | (go_simp; done) | (go_simp; rfl))
intro gb257 hg w50 hbox hb
replace HO250 := am (Kd.R_below (rr HO250) hb)
have BK257 := am (hbox)
have GW257 := am (gw hg (rb2 HB GE245 GE246))
have GE257 := GW257
replace HB := am (below_step (rb2 HB GE245 GE246) hb)
have NB245_257 := am (nl hg (rk BK245))
have NB257_245 := am (ng hg (rk BK245))
replace BK245 := am (blk_below (rk BK245) hb)
have NB246_257 := am (nl hg (rk BK246))
have NB257_246 := am (ng hg (rk BK246))
replace BK246 := am (blk_below (rk BK246) hb)
clear hb hbox hg
refine hK.out _ _ (bc3 BK245) (fun hHeld => ?_)
clear hK K
refine norm_ (a' := _) (show Act.put _ (some 6) _ = _ from na) ?_
exact norm_ nz (hJ4_11 (v249, gb257) _ ⟨hHeld, (rr HO250), (rk BK245), (rk BK246), (rk BK257), GW257.out, GE257.out, NB245_257.out, NB257_245.out, NB246_257.out, NB257_246.out, (rb3 HB GE245 GE246 GE257)⟩)
)
)
)
·(
skip
rintro ⟨v252, gb257⟩ w51 ⟨hHeld, h0_, h1_, h2_, h3_, h4_, h5_, h6_, h7_, h8_, h9_, h10_⟩
(try dsimp only at hHeld h0_ h1_ h2_ h3_ h4_ h5_ h6_ h7_ h8_ h9_ h10_)
have HO253 := am h0_; replace BK245 := am h1_; replace BK246 := am h2_; have BK257 := am h3_; have GW257 := am h4_; have GE257 := am h5_; have NB245_257 := am h6_; have NB257_245 := am h7_; have NB246_257 := am h8_; have NB257_246 := am h9_; replace HB := am h10_
clear h0_ h1_ h2_ h3_ h4_ h5_ h6_ h7_ h8_ h9_ h10_
refine norm_ (a' := _) nr ?_
refine one_ (i := 4) (N := some 20) (bm 13 2943) rfl rfl (one_of HT_.out (by kernel_rfl)) (by decide) (fun K hK => ?_)
refine goes_ Try.func53 (by kernel_rfl) rfl #[.slice A0_1 l0_1.length c0_1] (by rfl) rfl rfl mt ?_
with_reducible refine (slices_Clone_string_string.calls _ _ l0_1 t248 _ ?side1 ?side2 A17.out).mono ?_
(case side1 => exact rc ((Kd.C_below HR0_1.out HB.out)))
(case side2 => exact HC0_1.out)
rintro e w52 ⟨v249, rfl, ho0, hb⟩
refine ⟨_, rfl, ?_⟩
have HO250 := am (Kd.R_lower (Kd.R_new' ho0 (Kd.R_lt (rr HO253))) (below_size (rb3 HB GE245 GE246 GE257)))
replace HO253 := am (Kd.R_elder' (rr HO253) (Kd.R_base ho0) hb)
replace BK245 := am (blk_below (rk BK245) hb)
replace BK246 := am (blk_below (rk BK246) hb)
replace BK257 := am (blk_below (rk BK257) hb)
replace HB := am (below_step (rb3 HB GE245 GE246 GE257) hb)
(try clear hb)
(try clear ho0)
refine hK.out _ _ (bc3 BK245) (fun hHeld => ?_)
clear hK K
refine norm_ (a' := _) (show Act.put _ (some 20) _ = _ from na) ?_
exact norm_ nz (hJ4_6_11 (v249, v252, gb257) _ ⟨hHeld, (rrm HO250), (rrm HO253), (rk BK245), (rk BK246), (rk BK257), GW257.out, GE257.out, NB245_257.out, NB257_245.out, NB246_257.out, NB257_246.out, (rb3 HB GE245 GE246 GE257)⟩)
)
)
·(
skip
rintro ⟨v249, gb257⟩ w50 ⟨hHeld, h0_, h1_, h2_, h3_, h4_, h5_, h6_, h7_, h8_, h9_, h10_⟩
(try dsimp only at hHeld h0_ h1_ h2_ h3_ h4_ h5_ h6_ h7_ h8_ h9_ h10_)
have HO250 := am h0_; replace BK245 := am h1_; replace BK246 := am h2_; have BK257 := am h3_; have GW257 := am h4_; have GE257 := am h5_; have NB245_257 := am h6_; have NB257_245 := am h7_; have NB246_257 := am h8_; have NB257_246 := am h9_; replace HB := am h10_
clear h0_ h1_ h2_ h3_ h4_ h5_ h6_ h7_ h8_ h9_ h10_
refine norm_ (a' := _) nr ?_
refine one_ (i := 6) (N := some 22) (bm 13 2943) rfl rfl (one_of HT_.out (by kernel_rfl)) (by decide) (fun K hK => ?_)
refine Kd.R_lit_step Kd.string _ 9 ?hg (N := 22) ?hd (xs := ([a1] : List ByteArray)) (inner := [.string a1]) (ok := fun _ => True) (okp := fun _ => True) ?hr ?hp (fun _ hk => hk) trivial (Below.refl _ _) (Nat.le_refl _) (by simp) ?_; (case hd => rfl); (case hg => rfl); (case hr => first | (go_simp; done) | (go_simp; rfl)); (case hp => exact (Reps.one (show Kd.M Kd.string _ _ _ a1 [.string a1] from rfl) (Reps.none _ _)))
intro v252 w51 ho52 hb hg_ hnew_
clear hg_ hnew_
(first | rw [← Ny251.out] at ho52 | (simp only [Int.reduceToNat] at ho52; rw [← Ny251.out] at ho52))
have HO253 := am (Kd.R_lower (Kd.R_new' ho52 (Kd.R_lt (rr HO250))) (below_size (rb3 HB GE245 GE246 GE257)))
replace HO250 := am (Kd.R_elder' (rr HO250) (Kd.R_base ho52) hb)
replace BK245 := am (blk_below (rk BK245) hb)
replace BK246 := am (blk_below (rk BK246) hb)
replace BK257 := am (blk_below (rk BK257) hb)
replace HB := am (below_step (rb3 HB GE245 GE246 GE257) hb)
clear hb ho52
refine hK.out _ _ (bc3 BK245) (fun hHeld => ?_)
clear hK K
refine norm_ (a' := _) (show Act.put _ (some 22) _ = _ from na) ?_
exact norm_ nz (hJ4_6_11 (v249, v252, gb257) _ ⟨hHeld, (rrm HO250), (rrm HO253), (rk BK245), (rk BK246), (rk BK257), GW257.out, GE257.out, NB245_257.out, NB257_245.out, NB246_257.out, NB257_246.out, (rb3 HB GE245 GE246 GE257)⟩)
)
)
·(
skip
rintro ⟨v249, v252⟩ w51 ⟨hHeld, h0_, h1_, h2_, h3_, h4_⟩
(try dsimp only at hHeld h0_ h1_ h2_ h3_ h4_)
have HO250 := am h0_; have HO253 := am h1_; replace BK245 := am h2_; replace BK246 := am h3_; replace HB := am h4_
clear h0_ h1_ h2_ h3_ h4_
obtain ⟨Ao53, co53, eo53⟩ := Kd.R_slice HO253.out
(first | subst eo53 | (injection eo53 with f1_ f2_ f3_; have f4_ := f1_.symm; have f5_ := f3_.symm; clear f1_ f2_ f3_; subst f4_; subst f5_))
refine norm_ (a' := _) nr ?_
refine two_ (i := 7) (j := 11) (Ni := some 23) (Nj := some 6) (bm 13 1023) (bm 13 2943) rfl rfl rfl rfl (two_of HT_.out (by kernel_rfl)) (by decide) (by decide) (fun K hK => ?_) (fun K hK => ?_)
·(
skip
refine Kd.R_append_rows_step Kd.string (w0 := w) w.heap.size (by rfl) (.tmp 20) (.tmp 22) 24 9 (.string ⟨#[]⟩) 16 rfl Try.underlying24 info9 rfl (by decide) (by omega) v249 t248 y251 _ _ _ (fun k_ => some k_ ≠ (.slice Ao53 y251.length co53 : Value).ownBlock) (fun _ => False) rfl rfl ?aO ?aR (fun _ _ h => h) (fun _ h => h.elim) ?aF ?aB ?aS ?aL ?_
(case aR => repeat (first | exact (Kd.R_reads' HO253.out).2.2 | (with_reducible refine Kd.C_alloc ?_ _) | (with_reducible refine Kd.C_drewN ?_ _) | (with_reducible refine Kd.C_drew ?_)))
(case aB => exact (rb2 HB GE245 GE246))
(case aF => exact (fun k_ hk => Kd.fresh' (Kd.R_lt (rr HO253)) k_ hk))
(case aO => exact (rr HO250))
(case aS => exact (below_size (rb2 HB GE245 GE246)))
(case aL => have := LMc18.out; omega)
intro v255 w52 ho hb hg hat
rw [← Ny254.out] at ho
replace BK245 := am (blk_grown (rk BK245) hg (Kd.R_ne HO250.out BK245.out (by decide)))
replace BK246 := am (blk_grown (rk BK246) hg (Kd.R_ne HO250.out BK246.out (by decide)))
replace HO253 := am (Kd.R_after (ok := (fun _ => True)) (by (with_reducible repeat (first | apply r1 | apply r2 | apply r3)); exact Kd.R_mono HO253.out (fun _ hk => ⟨trivial, hk⟩)) hg hat)
replace HB := am (hb)
have HO256 := am (ho)
clear HO250
clear ho hb hg hat
obtain ⟨Ao54, co54, eo54⟩ := Kd.R_slice HO256.out
(first | subst eo54 | (injection eo54 with f1_ f2_ f3_; have f4_ := f1_.symm; have f5_ := f3_.symm; clear f1_ f2_ f3_; subst f4_; subst f5_))
refine hK.out _ _ (bc3 BK245) (fun hHeld => ?_)
clear hK K
refine norm_ (a' := _) (show Act.put _ (some 23) _ = _ from na) ?_
refine pu_ 10 26 (bm 13 2047) HT_.out ?_
exact norm_ nz (hJ4_6_7 (v249, .slice Ao53 y251.length co53, .slice Ao54 y254.length co54) _ ⟨hHeld, (rrm HO253), (rr HO256), (rk BK245), (rk BK246), (rb2 HB GE245 GE246)⟩)
)
·(
skip
refine box_step ?hg (N := 6) ?hd (cs := #[.int .i64 0, .slice none 0 0, .int .i64 0]) (t := 26) ?hr ?_; (case hd => rfl); (case hg => rfl); (case hr => first | (go_simp; done) | (go_simp; rfl))
intro gb257 hg w52 hbox hb
replace HO250 := am (Kd.R_below (rr HO250) hb)
replace HO253 := am (Kd.R_below (rr HO253) hb)
have BK257 := am (hbox)
have GW257 := am (gw hg (rb2 HB GE245 GE246))
have GE257 := GW257
replace HB := am (below_step (rb2 HB GE245 GE246) hb)
have NB245_257 := am (nl hg (rk BK245))
have NB257_245 := am (ng hg (rk BK245))
replace BK245 := am (blk_below (rk BK245) hb)
have NB246_257 := am (nl hg (rk BK246))
have NB257_246 := am (ng hg (rk BK246))
replace BK246 := am (blk_below (rk BK246) hb)
clear hb hbox hg
refine hK.out _ _ (bc3 BK245) (fun hHeld => ?_)
clear hK K
refine norm_ (a' := _) (show Act.put _ (some 6) _ = _ from na) ?_
exact norm_ nz (hJ4_6_11 (v249, .slice Ao53 y251.length co53, gb257) _ ⟨hHeld, (rr HO250), (rr HO253), (rk BK245), (rk BK246), (rk BK257), GW257.out, GE257.out, NB245_257.out, NB257_245.out, NB246_257.out, NB257_246.out, (rb3 HB GE245 GE246 GE257)⟩)
)
)
)
·(
skip
rintro ⟨v249, v252, gb257⟩ w52 ⟨hHeld, h0_, h1_, h2_, h3_, h4_, h5_, h6_, h7_, h8_, h9_, h10_, h11_⟩
(try dsimp only at hHeld h0_ h1_ h2_ h3_ h4_ h5_ h6_ h7_ h8_ h9_ h10_ h11_)
have HO250 := am h0_; have HO253 := am h1_; replace BK245 := am h2_; replace BK246 := am h3_; have BK257 := am h4_; have GW257 := am h5_; have GE257 := am h6_; have NB245_257 := am h7_; have NB257_245 := am h8_; have NB246_257 := am h9_; have NB257_246 := am h10_; replace HB := am h11_
clear h0_ h1_ h2_ h3_ h4_ h5_ h6_ h7_ h8_ h9_ h10_ h11_
obtain ⟨Ao54, co54, eo54⟩ := Kd.R_slice HO253.out
(first | subst eo54 | (injection eo54 with f1_ f2_ f3_; have f4_ := f1_.symm; have f5_ := f3_.symm; clear f1_ f2_ f3_; subst f4_; subst f5_))
refine norm_ (a' := _) nr ?_
refine one_ (i := 7) (N := some 23) (bm 13 3071) rfl rfl (one_of HT_.out (by kernel_rfl)) (by decide) (fun K hK => ?_)
refine Kd.R_append_rows_step Kd.string (w0 := w) w.heap.size (by rfl) (.tmp 20) (.tmp 22) 24 9 (.string ⟨#[]⟩) 16 rfl Try.underlying24 info9 rfl (by decide) (by omega) v249 t248 y251 _ _ _ (fun k_ => some k_ ≠ (.slice Ao54 y251.length co54 : Value).ownBlock) (fun _ => False) rfl rfl ?aO ?aR (fun _ _ h => h) (fun _ h => h.elim) ?aF ?aB ?aS ?aL ?_
(case aR => repeat (first | exact (Kd.R_reads' HO253.out).2.2 | (with_reducible refine Kd.C_alloc ?_ _) | (with_reducible refine Kd.C_drewN ?_ _) | (with_reducible refine Kd.C_drew ?_)))
(case aB => exact (rb3 HB GE245 GE246 GE257))
(case aF => exact (fun k_ hk => Kd.fresh' (Kd.R_lt (rr HO253)) k_ hk))
(case aO => exact (rr HO250))
(case aS => exact (below_size (rb3 HB GE245 GE246 GE257)))
(case aL => have := LMc18.out; omega)
intro v255 w53 ho hb hg hat
rw [← Ny254.out] at ho
replace BK245 := am (blk_grown (rk BK245) hg (Kd.R_ne HO250.out BK245.out (by decide)))
replace BK246 := am (blk_grown (rk BK246) hg (Kd.R_ne HO250.out BK246.out (by decide)))
replace HO253 := am (Kd.R_after (ok := (fun _ => True)) (by (with_reducible repeat (first | apply r1 | apply r2 | apply r3)); exact Kd.R_mono HO253.out (fun _ hk => ⟨trivial, hk⟩)) hg hat)
replace BK257 := am (blk_grown (rk BK257) hg (Kd.R_ne HO250.out BK257.out (by decide)))
replace HB := am (hb)
have HO256 := am (ho)
clear HO250
clear ho hb hg hat
obtain ⟨Ao55, co55, eo55⟩ := Kd.R_slice HO256.out
(first | subst eo55 | (injection eo55 with f1_ f2_ f3_; have f4_ := f1_.symm; have f5_ := f3_.symm; clear f1_ f2_ f3_; subst f4_; subst f5_))
refine hK.out _ _ (bc3 BK245) (fun hHeld => ?_)
clear hK K
refine norm_ (a' := _) (show Act.put _ (some 23) _ = _ from na) ?_
refine pu_ 10 26 (bm 13 4095) HT_.out ?_
exact norm_ nz (hJ4_6_7_11 (v249, .slice Ao54 y251.length co54, .slice Ao55 y254.length co55, gb257) _ ⟨hHeld, (rrm HO253), (rr HO256), (rk BK245), (rk BK246), (rk BK257), GW257.out, GE257.out, NB245_257.out, NB257_245.out, NB246_257.out, NB257_246.out, (rb3 HB GE245 GE246 GE257)⟩)
)
)
·(
skip
rintro ⟨v249, v252, v255⟩ w54 ⟨hHeld, h0_, h1_, h2_, h3_, h4_⟩
(try dsimp only at hHeld h0_ h1_ h2_ h3_ h4_)
have HO253 := am h0_; have HO256 := am h1_; replace BK245 := am h2_; replace BK246 := am h3_; replace HB := am h4_
clear h0_ h1_ h2_ h3_ h4_
obtain ⟨Ao55, co55, eo55⟩ := Kd.R_slice HO256.out
(first | subst eo55 | (injection eo55 with f1_ f2_ f3_; have f4_ := f1_.symm; have f5_ := f3_.symm; clear f1_ f2_ f3_; subst f4_; subst f5_))
refine norm_ (a' := _) nr ?_
refine one_ (i := 11) (N := some 6) (bm 13 4095) rfl rfl (one_of HT_.out (by kernel_rfl)) (by decide) (fun K hK => ?_)
refine box_step ?hg (N := 6) ?hd (cs := #[.int .i64 0, .slice none 0 0, .int .i64 0]) (t := 26) ?hr ?_; (case hd => rfl); (case hg => rfl); (case hr => first | (go_simp; done) | (go_simp; rfl))
intro gb257 hg w56 hbox hb
replace HO253 := am (Kd.R_below (rr HO253) hb)
replace HO256 := am (Kd.R_below (rr HO256) hb)
have BK257 := am (hbox)
have GW257 := am (gw hg (rb2 HB GE245 GE246))
have GE257 := GW257
replace HB := am (below_step (rb2 HB GE245 GE246) hb)
have NB245_257 := am (nl hg (rk BK245))
have NB257_245 := am (ng hg (rk BK245))
replace BK245 := am (blk_below (rk BK245) hb)
have NB246_257 := am (nl hg (rk BK246))
have NB257_246 := am (ng hg (rk BK246))
replace BK246 := am (blk_below (rk BK246) hb)
clear hb hbox hg
refine hK.out _ _ (bc3 BK245) (fun hHeld => ?_)
clear hK K
refine norm_ (a' := _) (show Act.put _ (some 6) _ = _ from na) ?_
exact norm_ nz (hJ4_6_7_11 (v249, v252, .slice Ao55 y254.length co55, gb257) _ ⟨hHeld, (rr HO253), (rr HO256), (rk BK245), (rk BK246), (rk BK257), GW257.out, GE257.out, NB245_257.out, NB257_245.out, NB246_257.out, NB257_246.out, (rb3 HB GE245 GE246 GE257)⟩)
)
)
rintro ⟨v249, v252, v255, gb257⟩ w55 ⟨hHeld, h0_, h1_, h2_, h3_, h4_, h5_, h6_, h7_, h8_, h9_, h10_, h11_⟩
(try dsimp only at hHeld h0_ h1_ h2_ h3_ h4_ h5_ h6_ h7_ h8_ h9_ h10_ h11_)
have HO253 := am h0_; have HO256 := am h1_; replace BK245 := am h2_; replace BK246 := am h3_; have BK257 := am h4_; have GW257 := am h5_; have GE257 := am h6_; have NB245_257 := am h7_; have NB257_245 := am h8_; have NB246_257 := am h9_; have NB257_246 := am h10_; replace HB := am h11_
clear h0_ h1_ h2_ h3_ h4_ h5_ h6_ h7_ h8_ h9_ h10_ h11_
obtain ⟨Ao56, co56, eo56⟩ := Kd.R_slice HO256.out
(first | subst eo56 | (injection eo56 with f1_ f2_ f3_; have f4_ := f1_.symm; have f5_ := f3_.symm; clear f1_ f2_ f3_; subst f4_; subst f5_))
refine norm_ (a' := _) nr ?_
refine one_ (i := 12) (N := none) (bm 13 8191) rfl rfl (one_of HT_.out (by kernel_rfl)) (by decide) (fun K hK => ?_)
have hs57 : w55.cell? ⟨gb257, 0, none⟩ = some (.int .i64 0) := (blk_cell BK257.out 0).trans rfl
have hfs57 := blk_frozen BK257.out 0
have hns57_0 := NB245_257.out
have hns57_1 := NB246_257.out
have hms57_0 := NB257_245.out
have hms57_1 := NB257_246.out
have hs58 : w55.cell? ⟨gb257, 1, none⟩ = some (.slice none 0 0) := (blk_cell BK257.out 1).trans rfl
have hfs58 := blk_frozen BK257.out 1
have hns58_0 := NB245_257.out
have hns58_1 := NB246_257.out
have hms58_0 := NB257_245.out
have hms58_1 := NB257_246.out
have hs59 : w55.cell? ⟨gb257, 2, none⟩ = some (.int .i64 0) := (blk_cell BK257.out 2).trans rfl
have hfs59 := blk_frozen BK257.out 2
have hns59_0 := NB245_257.out
have hns59_1 := NB246_257.out
have hms59_0 := NB257_245.out
have hms59_1 := NB257_246.out
refine skip_ (w1 := ?_) (by rfl) rfl ?_ ?_
rotate_left
·(
go_simp
rfl
)
refine hK.out _ _ ⟨((cell_far (p := ⟨gb257, _, none⟩) NB245_257.out _).trans (((cell_far (p := ⟨gb257, _, none⟩) NB245_257.out _).trans (((cell_far (p := ⟨gb257, _, none⟩) NB245_257.out _).trans (hHeld.1)))))), ((cell_far (p := ⟨gb257, _, none⟩) NB245_257.out _).trans (((cell_far (p := ⟨gb257, _, none⟩) NB245_257.out _).trans (((cell_far (p := ⟨gb257, _, none⟩) NB245_257.out _).trans (hHeld.2.1)))))), ((cell_far (p := ⟨gb257, _, none⟩) NB245_257.out _).trans (((cell_far (p := ⟨gb257, _, none⟩) NB245_257.out _).trans (((cell_far (p := ⟨gb257, _, none⟩) NB245_257.out _).trans (hHeld.2.2))))))⟩ (fun hHeld => ?_)
clear hK K
refine done_ (done_of HT_.out (by kernel_rfl)) ?_
have n0_ : Aside0 (Kd.R Kd.string 9 (((w55.setCell ⟨gb257, 0, none⟩ (.int .i64 a0_0)).setCell ⟨gb257, 1, none⟩ (.slice Ao56 y254.length co56)).setCell ⟨gb257, 2, none⟩ (.int .i64 a0_2)) w.heap.size (fun k_ => some k_ ≠ (.slice Ao56 y254.length co56 : Value).ownBlock) v252 y251) := ⟨Rm3 HO253 BK257⟩
have n1_ : Aside0 (Kd.R Kd.string 9 (((w55.setCell ⟨gb257, 0, none⟩ (.int .i64 a0_0)).setCell ⟨gb257, 1, none⟩ (.slice Ao56 y254.length co56)).setCell ⟨gb257, 2, none⟩ (.int .i64 a0_2)) w.heap.size (fun k_ => some k_ ≠ (v252 : Value).ownBlock) (.slice Ao56 y254.length co56) y254) := ⟨Rm3 HO256 BK257⟩
have n2_ : Aside0 ((((w55.setCell ⟨gb257, 0, none⟩ (.int .i64 a0_0)).setCell ⟨gb257, 1, none⟩ (.slice Ao56 y254.length co56)).setCell ⟨gb257, 2, none⟩ (.int .i64 a0_2)).heap[gb245]? = some (.cells #[.int .i64 a0_0, .slice A0_1 l0_1.length c0_1, .int .i64 a0_2] 26 (0, 0))) := ⟨rf3 NB245_257 BK245⟩
have n3_ : Aside0 ((((w55.setCell ⟨gb257, 0, none⟩ (.int .i64 a0_0)).setCell ⟨gb257, 1, none⟩ (.slice Ao56 y254.length co56)).setCell ⟨gb257, 2, none⟩ (.int .i64 a0_2)).heap[gb246]? = some (.cells #[.int .i64 0, .slice none 0 0, .int .i64 0] 26 (0, 0))) := ⟨rf3 NB246_257 BK246⟩
have n4_ : Aside0 ((((w55.setCell ⟨gb257, 0, none⟩ (.int .i64 a0_0)).setCell ⟨gb257, 1, none⟩ (.slice Ao56 y254.length co56)).setCell ⟨gb257, 2, none⟩ (.int .i64 a0_2)).heap[gb257]? = some (.cells #[.int .i64 a0_0, .slice Ao56 y254.length co56, .int .i64 a0_2] 26 (0, 0))) := ⟨by (with_reducible repeat (first | apply k1 | apply k2 | apply k3)); refine blk_put (cs := #[.int .i64 a0_0, .slice Ao56 y254.length co56, .int .i64 0]) ?_ 2 _ rfl; (with_reducible repeat (first | apply k1 | apply k2 | apply k3)); refine blk_put (cs := #[.int .i64 a0_0, .slice none 0 0, .int .i64 0]) ?_ 1 _ rfl; (with_reducible repeat (first | apply k1 | apply k2 | apply k3)); refine blk_put (cs := #[.int .i64 0, .slice none 0 0, .int .i64 0]) ?_ 0 _ rfl; (with_reducible repeat (first | apply k1 | apply k2 | apply k3)); exact BK257.out⟩
have n5_ : Aside0 (Below w.heap.size w (((w55.setCell ⟨gb257, 0, none⟩ (.int .i64 a0_0)).setCell ⟨gb257, 1, none⟩ (.slice Ao56 y254.length co56)).setCell ⟨gb257, 2, none⟩ (.int .i64 a0_2))) := ⟨rb3 HB GE245 GE246 GE257⟩
(try clear HO253)
(try clear HO256)
(try clear BK245)
(try clear BK246)
(try clear BK257)
(try clear HB)
generalize (((w55.setCell ⟨gb257, 0, none⟩ (.int .i64 a0_0)).setCell ⟨gb257, 1, none⟩ (.slice Ao56 y254.length co56)).setCell ⟨gb257, 2, none⟩ (.int .i64 a0_2)) = w60 at n0_ n1_ n2_ n3_ n4_ n5_ ⊢
have HO253 := n0_
have HO256 := n1_
have BK245 := n2_
have BK246 := n3_
have BK257 := n4_
have HB := n5_
clear n0_ n1_ n2_ n3_ n4_ n5_
have hnb61 := NB257_245.out
have hnc61 := NB245_257.out
have hnb62 := NB257_246.out
have hnc62 := NB246_257.out
have hcz63_0 : w60.cell? ⟨gb257, 0, none⟩ = some (.int .i64 a0_0) := (blk_cell BK257.out 0).trans rfl
have hcz63_1 : w60.cell? ⟨gb257, 1, none⟩ = some (.slice Ao56 y254.length co56) := (blk_cell BK257.out 1).trans rfl
have hcz63_2 : w60.cell? ⟨gb257, 2, none⟩ = some (.int .i64 a0_2) := (blk_cell BK257.out 2).trans rfl
have hfz63_0 := blk_frozen BK257.out 0
have hfz63_1 := blk_frozen BK257.out 1
have hfz63_2 := blk_frozen BK257.out 2
have hnb64 := NB245_246.out
have hnc64 := NB246_245.out
have hcz65_0 : w60.cell? ⟨gb245, 0, none⟩ = some (.int .i64 a0_0) := (blk_cell BK245.out 0).trans rfl
have hcz65_1 : w60.cell? ⟨gb245, 1, none⟩ = some (.slice A0_1 l0_1.length c0_1) := (blk_cell BK245.out 1).trans rfl
have hcz65_2 : w60.cell? ⟨gb245, 2, none⟩ = some (.int .i64 a0_2) := (blk_cell BK245.out 2).trans rfl
have hfz65_0 := blk_frozen BK245.out 0
have hfz65_1 := blk_frozen BK245.out 1
have hfz65_2 := blk_frozen BK245.out 2
have q66 : (1 : Int) ≤ ((y254.length : Int) : Int) := dt_
obtain ⟨i066, hi066, _, hsz66, _⟩ := info_parts info9
have hroom66 : y254.length ≤ co56 := (Kd.R_reads' HO256.out).2.1
have hC66 : Kd.C Kd.string _ Ao56 y254.length y254 := (Kd.R_reads' HO256.out).2.2
have hcut66 := cut_from (P := Try.prog) 24 9 .i64 Try.underlying24 hi066 1 hsz66 Ao56 y254.length co56 1 (by omega) q66
have hr66 := Kd.C_drop (m := (1 : Int).toNat) (c := co56) hC66 (by omega) hroom66
obtain ⟨A66, hA66⟩ : ∃ A1, A1 = (if co56 = (1 : Int).toNat then Ao56 else (Ao56 : Option Addr).map (·.add ((1 : Int).toNat * 1))) := ⟨_, rfl⟩
obtain ⟨c66, hc66⟩ : ∃ c1, c1 = co56 - (1 : Int).toNat := ⟨_, rfl⟩
have hy66 : y258.length = y254.length - (1 : Int).toNat := (by rw [Ny258.out, List.length_drop] <;> omega)
rw [show (y254).drop (1 : Int).toNat = y258 from Ny258.out.symm] at hr66
replace hr66 : Kd.C Kd.string _ A66 y258.length y258 := (by rw [hA66]; exact hr66)
rw [← hy66, ← hA66, ← hc66] at hcut66
have HR261 := am hr66
have HC261 := am (show y258.length ≤ c66 from by rw [hy66, hc66]; exact Nat.sub_le_sub_right hroom66 _)
clear hr66 hC66 hroom66 hi066 hsz66 hc66
have KY66 := am hy66
have KA66 := am hA66
clear hy66 hA66
have KL66 := am (show 1 ≤ y254.length from by omega)
replace q66 := eq_true q66
try go_wp2_with (first | ((with_reducible refine gate_callee (f := 53) rfl ?_); refine gl_ (some 36) Try.func53 #[.slice A66 y258.length c66] ?_; (with_reducible refine (slices_Clone_string_string.calls _ _ y258 t262 _ ?side1 ?side2 A21.out).mono ?_); (case side1 => repeat (first | exact (by repeat (first | (with_reducible exact HR261.out) | (with_reducible refine Kd.C_alloc ?_ _) | (with_reducible refine Kd.C_drewN ?_ _) | (with_reducible refine Kd.C_drew ?_) | exact HR261.out)) | (with_reducible refine Kd.C_alloc ?_ _) | (with_reducible refine Kd.C_drewN ?_ _) | (with_reducible refine Kd.C_drew ?_))); (case side2 => exact HC261.out); rintro e w67 ⟨v263, rfl, ho0, hb⟩; refine ⟨_, rfl, ?_⟩; have HO264 := am (Kd.R_lower (Kd.R_new' (Kd.R_new' ho0 (Kd.R_lt (rr HO253))) (Kd.R_lt (rr HO256))) (below_size (rb3 HB GE245 GE246 GE257))); replace HO253 := am (Kd.R_elder' (rr HO253) (Kd.R_base ho0) hb); replace HO256 := am (Kd.R_elder' (rr HO256) (Kd.R_base ho0) hb); replace BK245 := am (blk_below (rk BK245) hb); replace BK246 := am (blk_below (rk BK246) hb); replace BK257 := am (blk_below (rk BK257) hb); replace HR261 := am (Kd.C_below (by repeat (first | (with_reducible exact HR261.out) | (with_reducible refine Kd.C_alloc ?_ _) | (with_reducible refine Kd.C_drewN ?_ _) | (with_reducible refine Kd.C_drew ?_) | exact HR261.out)) hb); replace HB := am (below_step (rb3 HB GE245 GE246 GE257) hb); (try clear hb); (try clear hb2); (try clear hk); (try clear hi); (try clear ho0); obtain ⟨Ao68, co68, eo68⟩ := Kd.R_slice HO264.out; subst eo68; have hcz69_0 : w67.cell? ⟨gb257, 0, none⟩ = some (.int .i64 a0_0) := (blk_cell BK257.out 0).trans rfl; have hcz69_1 : w67.cell? ⟨gb257, 1, none⟩ = some (.slice Ao56 y254.length co56) := (blk_cell BK257.out 1).trans rfl; have hcz69_2 : w67.cell? ⟨gb257, 2, none⟩ = some (.int .i64 a0_2) := (blk_cell BK257.out 2).trans rfl; have hfz69_0 := blk_frozen BK257.out 0; have hfz69_1 := blk_frozen BK257.out 1; have hfz69_2 := blk_frozen BK257.out 2; have hcz70_0 : w67.cell? ⟨gb246, 0, none⟩ = some (.int .i64 0) := (blk_cell BK246.out 0).trans rfl; have hcz70_1 : w67.cell? ⟨gb246, 1, none⟩ = some (.slice none 0 0) := (blk_cell BK246.out 1).trans rfl; have hcz70_2 : w67.cell? ⟨gb246, 2, none⟩ = some (.int .i64 0) := (blk_cell BK246.out 2).trans rfl; have hfz70_0 := blk_frozen BK246.out 0; have hfz70_1 := blk_frozen BK246.out 1; have hfz70_2 := blk_frozen BK246.out 2))
refine bodyPost_ret (results_ct rfl _ _ gb246 26 #[.int .i64 a0_0, .slice Ao68 t262.length co68, .int .i64 (wrap64 (a0_2 + 1))] (0, 0) _ rfl (by (with_reducible repeat (first | apply k1 | apply k2 | apply k3)); refine blk_put (cs := #[.int .i64 a0_0, .slice Ao68 t262.length co68, .int .i64 0]) ?_ 2 _ rfl; (with_reducible repeat (first | apply k1 | apply k2 | apply k3)); refine blk_put (cs := #[.int .i64 a0_0, .slice none 0 0, .int .i64 0]) ?_ 1 _ rfl; (with_reducible repeat (first | apply k1 | apply k2 | apply k3)); refine blk_put (cs := #[.int .i64 0, .slice none 0 0, .int .i64 0]) ?_ 0 _ rfl; (with_reducible repeat (first | apply k1 | apply k2 | apply k3)); refine blk_far ?_ NB246_257.out _; (with_reducible repeat (first | apply k1 | apply k2 | apply k3)); refine blk_far ?_ NB246_257.out _; (with_reducible repeat (first | apply k1 | apply k2 | apply k3)); exact BK246.out) Try.underlying26 rfl (by kernel_rfl)) rfl ?_
exact ⟨_, by first | rfl | (simp [errW_none, errW_some] <;> rfl) | (simp [*, errW_none, errW_some] <;> rfl), by (with_reducible repeat (first | apply r1 | apply r2 | apply r3)); exact Kd.R_mono (Kd.R_far (p := ⟨gb246, 2, none⟩) (Kd.R_far (p := ⟨gb246, 1, none⟩) (Kd.R_far (p := ⟨gb246, 0, none⟩) (Kd.R_far (p := ⟨gb257, 2, none⟩) (Kd.R_far (p := ⟨gb257, 1, none⟩) (Kd.R_types (Kd.R_types HO264.out BK257.out (by decide)) BK246.out (by decide)) (fun _ hk => hk.1.2) (.slice Ao68 t262.length co68)) (fun _ hk => hk.1.2) (.int .i64 (wrap64 (a0_2 + 1)))) (fun _ hk => hk.2) (.int .i64 a0_0)) (fun _ hk => hk.2) (.slice Ao68 t262.length co68)) (fun _ hk => hk.2) (.int .i64 (wrap64 (a0_2 + 1)))) (fun _ hk => trivial), rb3 HB GE245 GE246 GE257⟩
)
)
·(
rw [if_neg c20] at H
exact absurd H (by simp)
)
)
·(
rw [if_neg c19] at H
have c19b0 : decide (a0_0 < (y254.length : Int)) = false := decide_eq_false c19
clear c19
by_cases c71 : a0_2 > 1000000
·(
rw [if_pos c71] at H
have c71b0 : decide (1000000 < a0_2) = true := decide_eq_true c71
clear c71
simp only [Option.some.injEq, Prod.mk.injEq] at H
obtain ⟨rfl, rfl, rfl, rfl⟩ := H
try go_wp2
replace BK245 := am (blk_drew BK245.out)
replace BK246 := am (blk_drew BK246.out)
replace HB := am (below_drew1 HB.out)
refine start_ (n := 13) (S := fun w' => w'.cell? ⟨gb245, 0, none⟩ = some (.int .i64 a0_0) ∧ w'.cell? ⟨gb245, 1, none⟩ = some (.slice A0_1 l0_1.length c0_1) ∧ w'.cell? ⟨gb245, 2, none⟩ = some (.int .i64 a0_2)) (ds := []) (bm 13 0) (by kernel_rfl) rfl rfl (bc3 BK245) (fun hHeld => ?_); refine with_tabW impl_Keep.tab3 impl_Keep.bits3 (fun HT_ HW_ => ?_)
generalize wc.drew = w72 at BK245 BK246 HB hHeld ⊢
refine pu_ 0 16 (bm 13 1) HT_.out ?_
refine pu_ 2 18 (bm 13 5) HT_.out ?_
refine pu_ 5 21 (bm 13 37) HT_.out ?_
refine pu_ 8 24 (bm 13 293) HT_.out ?_
refine take_ (i := 1) (N := some 17) (v := ?_) (a' := ?_) (bm 13 295) rfl rfl (take_ofW HT_.out HW_.out (by kernel_rfl)) (fun _ _ _ h => h) (Or.inl ⟨by rfl, ?_⟩) hHeld ?_ ?_
rotate_left
·(
rintro w' ⟨s0, s1, s2⟩
go_simp
with_reducible rfl
)
rotate_left
·(
simp only [Act.put, List.setIfInBounds_toArray, List.set_cons_zero, List.set_cons_succ, i64_w, i32_w]
rfl
)
refine take_ (i := 3) (N := some 19) (v := ?_) (a' := ?_) (bm 13 303) rfl rfl (take_ofW HT_.out HW_.out (by kernel_rfl)) (fun _ _ _ h => h) (Or.inl ⟨by rfl, ?_⟩) hHeld ?_ ?_
rotate_left
·(
rintro w' ⟨s0, s1, s2⟩
go_simp
with_reducible rfl
)
rotate_left
·(
simp only [Act.put, List.setIfInBounds_toArray, List.set_cons_zero, List.set_cons_succ, i64_w, i32_w]
rfl
)
refine take_ (i := 9) (N := some 25) (v := ?_) (a' := ?_) (bm 13 815) rfl rfl (take_ofW HT_.out HW_.out (by kernel_rfl)) (fun _ _ _ h => h) (Or.inl ⟨by rfl, ?_⟩) hHeld ?_ ?_
rotate_left
·(
rintro w' ⟨s0, s1, s2⟩
go_simp
with_reducible rfl
)
rotate_left
·(
simp only [Act.put, List.setIfInBounds_toArray, List.set_cons_zero, List.set_cons_succ, i64_w, i32_w]
rfl
)
refine join_ (σ := Value × Value × Value × Nat) 1 (bm 13 4095) (fun s_ => [(20, s_.1), (22, s_.2.1), (23, s_.2.2.1), (6, .pointer (some ⟨s_.2.2.2, 0, none⟩)), (26, .agg #[.int .i64 a0_0, s_.2.2.1, .int .i64 a0_2])]) (fun s_ w' => (w'.cell? ⟨gb245, 0, none⟩ = some (.int .i64 a0_0) ∧ w'.cell? ⟨gb245, 1, none⟩ = some (.slice A0_1 l0_1.length c0_1) ∧ w'.cell? ⟨gb245, 2, none⟩ = some (.int .i64 a0_2)) ∧ (Kd.R Kd.string 9 w' w.heap.size (fun k_ => some k_ ≠ (s_.2.2.1 : Value).ownBlock) s_.2.1 y251) ∧ (Kd.R Kd.string 9 w' w.heap.size (fun k_ => some k_ ≠ (s_.2.1 : Value).ownBlock) s_.2.2.1 y254) ∧ (w'.heap[gb245]? = some (.cells #[.int .i64 a0_0, .slice A0_1 l0_1.length c0_1, .int .i64 a0_2] 26 (0, 0))) ∧ (w'.heap[gb246]? = some (.cells #[.int .i64 0, .slice none 0 0, .int .i64 0] 26 (0, 0))) ∧ (w'.heap[s_.2.2.2]? = some (.cells #[.int .i64 0, .slice none 0 0, .int .i64 0] 26 (0, 0))) ∧ (w.heap.size ≤ s_.2.2.2) ∧ (w.heap.size ≤ s_.2.2.2) ∧ (gb245 ≠ s_.2.2.2) ∧ (s_.2.2.2 ≠ gb245) ∧ (gb246 ≠ s_.2.2.2) ∧ (s_.2.2.2 ≠ gb246) ∧ (Below w.heap.size w w')) ?_ ?_
rotate_left
·(
intro hJ4_6_7_11
refine join_ (σ := Value × Value × Value) 2 (bm 13 2047) (fun s_ => [(20, s_.1), (22, s_.2.1), (23, s_.2.2), (26, .agg #[.int .i64 a0_0, s_.2.2, .int .i64 a0_2])]) (fun s_ w' => (w'.cell? ⟨gb245, 0, none⟩ = some (.int .i64 a0_0) ∧ w'.cell? ⟨gb245, 1, none⟩ = some (.slice A0_1 l0_1.length c0_1) ∧ w'.cell? ⟨gb245, 2, none⟩ = some (.int .i64 a0_2)) ∧ (Kd.R Kd.string 9 w' w.heap.size (fun k_ => some k_ ≠ (s_.2.2 : Value).ownBlock) s_.2.1 y251) ∧ (Kd.R Kd.string 9 w' w.heap.size (fun k_ => some k_ ≠ (s_.2.1 : Value).ownBlock) s_.2.2 y254) ∧ (w'.heap[gb245]? = some (.cells #[.int .i64 a0_0, .slice A0_1 l0_1.length c0_1, .int .i64 a0_2] 26 (0, 0))) ∧ (w'.heap[gb246]? = some (.cells #[.int .i64 0, .slice none 0 0, .int .i64 0] 26 (0, 0))) ∧ (Below w.heap.size w w')) ?_ ?_
rotate_left
·(
intro hJ4_6_7
refine join_ (σ := Value × Value × Nat) 3 (bm 13 2943) (fun s_ => [(20, s_.1), (22, s_.2.1), (6, .pointer (some ⟨s_.2.2, 0, none⟩))]) (fun s_ w' => (w'.cell? ⟨gb245, 0, none⟩ = some (.int .i64 a0_0) ∧ w'.cell? ⟨gb245, 1, none⟩ = some (.slice A0_1 l0_1.length c0_1) ∧ w'.cell? ⟨gb245, 2, none⟩ = some (.int .i64 a0_2)) ∧ (Kd.R Kd.string 9 w' w.heap.size (fun k_ => some k_ ≠ (s_.2.1 : Value).ownBlock) s_.1 t248) ∧ (Kd.R Kd.string 9 w' w.heap.size (fun k_ => some k_ ≠ (s_.1 : Value).ownBlock) s_.2.1 y251) ∧ (w'.heap[gb245]? = some (.cells #[.int .i64 a0_0, .slice A0_1 l0_1.length c0_1, .int .i64 a0_2] 26 (0, 0))) ∧ (w'.heap[gb246]? = some (.cells #[.int .i64 0, .slice none 0 0, .int .i64 0] 26 (0, 0))) ∧ (w'.heap[s_.2.2]? = some (.cells #[.int .i64 0, .slice none 0 0, .int .i64 0] 26 (0, 0))) ∧ (w.heap.size ≤ s_.2.2) ∧ (w.heap.size ≤ s_.2.2) ∧ (gb245 ≠ s_.2.2) ∧ (s_.2.2 ≠ gb245) ∧ (gb246 ≠ s_.2.2) ∧ (s_.2.2 ≠ gb246) ∧ (Below w.heap.size w w')) ?_ ?_
rotate_left
·(
intro hJ4_6_11
refine join_ (σ := Value × Value) 4 (bm 13 895) (fun s_ => [(20, s_.1), (22, s_.2)]) (fun s_ w' => (w'.cell? ⟨gb245, 0, none⟩ = some (.int .i64 a0_0) ∧ w'.cell? ⟨gb245, 1, none⟩ = some (.slice A0_1 l0_1.length c0_1) ∧ w'.cell? ⟨gb245, 2, none⟩ = some (.int .i64 a0_2)) ∧ (Kd.R Kd.string 9 w' w.heap.size (fun k_ => some k_ ≠ (s_.2 : Value).ownBlock) s_.1 t248) ∧ (Kd.R Kd.string 9 w' w.heap.size (fun k_ => some k_ ≠ (s_.1 : Value).ownBlock) s_.2 y251) ∧ (w'.heap[gb245]? = some (.cells #[.int .i64 a0_0, .slice A0_1 l0_1.length c0_1, .int .i64 a0_2] 26 (0, 0))) ∧ (w'.heap[gb246]? = some (.cells #[.int .i64 0, .slice none 0 0, .int .i64 0] 26 (0, 0))) ∧ (Below w.heap.size w w')) ?_ ?_
rotate_left
·(
intro hJ4_6
refine join_ (σ := Value × Nat) 4 (bm 13 2879) (fun s_ => [(20, s_.1), (6, .pointer (some ⟨s_.2, 0, none⟩))]) (fun s_ w' => (w'.cell? ⟨gb245, 0, none⟩ = some (.int .i64 a0_0) ∧ w'.cell? ⟨gb245, 1, none⟩ = some (.slice A0_1 l0_1.length c0_1) ∧ w'.cell? ⟨gb245, 2, none⟩ = some (.int .i64 a0_2)) ∧ (Kd.R Kd.string 9 w' w.heap.size (fun _ => True) s_.1 t248) ∧ (w'.heap[gb245]? = some (.cells #[.int .i64 a0_0, .slice A0_1 l0_1.length c0_1, .int .i64 a0_2] 26 (0, 0))) ∧ (w'.heap[gb246]? = some (.cells #[.int .i64 0, .slice none 0 0, .int .i64 0] 26 (0, 0))) ∧ (w'.heap[s_.2]? = some (.cells #[.int .i64 0, .slice none 0 0, .int .i64 0] 26 (0, 0))) ∧ (w.heap.size ≤ s_.2) ∧ (w.heap.size ≤ s_.2) ∧ (gb245 ≠ s_.2) ∧ (s_.2 ≠ gb245) ∧ (gb246 ≠ s_.2) ∧ (s_.2 ≠ gb246) ∧ (Below w.heap.size w w')) ?_ ?_
rotate_left
·(
intro hJ4_11
refine join_ (σ := Value × Nat) 4 (bm 13 2927) (fun s_ => [(22, s_.1), (6, .pointer (some ⟨s_.2, 0, none⟩))]) (fun s_ w' => (w'.cell? ⟨gb245, 0, none⟩ = some (.int .i64 a0_0) ∧ w'.cell? ⟨gb245, 1, none⟩ = some (.slice A0_1 l0_1.length c0_1) ∧ w'.cell? ⟨gb245, 2, none⟩ = some (.int .i64 a0_2)) ∧ (Kd.R Kd.string 9 w' w.heap.size (fun _ => True) s_.1 y251) ∧ (w'.heap[gb245]? = some (.cells #[.int .i64 a0_0, .slice A0_1 l0_1.length c0_1, .int .i64 a0_2] 26 (0, 0))) ∧ (w'.heap[gb246]? = some (.cells #[.int .i64 0, .slice none 0 0, .int .i64 0] 26 (0, 0))) ∧ (w'.heap[s_.2]? = some (.cells #[.int .i64 0, .slice none 0 0, .int .i64 0] 26 (0, 0))) ∧ (w.heap.size ≤ s_.2) ∧ (w.heap.size ≤ s_.2) ∧ (gb245 ≠ s_.2) ∧ (s_.2 ≠ gb245) ∧ (gb246 ≠ s_.2) ∧ (s_.2 ≠ gb246) ∧ (Below w.heap.size w w')) ?_ ?_
rotate_left
·(
intro hJ6_11
refine join_ (σ := Value) 5 (bm 13 831) (fun s_ => [(20, s_)]) (fun s_ w' => (w'.cell? ⟨gb245, 0, none⟩ = some (.int .i64 a0_0) ∧ w'.cell? ⟨gb245, 1, none⟩ = some (.slice A0_1 l0_1.length c0_1) ∧ w'.cell? ⟨gb245, 2, none⟩ = some (.int .i64 a0_2)) ∧ (Kd.R Kd.string 9 w' w.heap.size (fun _ => True) s_ t248) ∧ (w'.heap[gb245]? = some (.cells #[.int .i64 a0_0, .slice A0_1 l0_1.length c0_1, .int .i64 a0_2] 26 (0, 0))) ∧ (w'.heap[gb246]? = some (.cells #[.int .i64 0, .slice none 0 0, .int .i64 0] 26 (0, 0))) ∧ (Below w.heap.size w w')) ?_ ?_
rotate_left
·(
intro hJ4
refine join_ (σ := Value) 5 (bm 13 879) (fun s_ => [(22, s_)]) (fun s_ w' => (w'.cell? ⟨gb245, 0, none⟩ = some (.int .i64 a0_0) ∧ w'.cell? ⟨gb245, 1, none⟩ = some (.slice A0_1 l0_1.length c0_1) ∧ w'.cell? ⟨gb245, 2, none⟩ = some (.int .i64 a0_2)) ∧ (Kd.R Kd.string 9 w' w.heap.size (fun _ => True) s_ y251) ∧ (w'.heap[gb245]? = some (.cells #[.int .i64 a0_0, .slice A0_1 l0_1.length c0_1, .int .i64 a0_2] 26 (0, 0))) ∧ (w'.heap[gb246]? = some (.cells #[.int .i64 0, .slice none 0 0, .int .i64 0] 26 (0, 0))) ∧ (Below w.heap.size w w')) ?_ ?_
rotate_left
·(
intro hJ6
refine join_ (σ := Nat) 5 (bm 13 2863) (fun s_ => [(6, .pointer (some ⟨s_, 0, none⟩))]) (fun s_ w' => (w'.cell? ⟨gb245, 0, none⟩ = some (.int .i64 a0_0) ∧ w'.cell? ⟨gb245, 1, none⟩ = some (.slice A0_1 l0_1.length c0_1) ∧ w'.cell? ⟨gb245, 2, none⟩ = some (.int .i64 a0_2)) ∧ (w'.heap[gb245]? = some (.cells #[.int .i64 a0_0, .slice A0_1 l0_1.length c0_1, .int .i64 a0_2] 26 (0, 0))) ∧ (w'.heap[gb246]? = some (.cells #[.int .i64 0, .slice none 0 0, .int .i64 0] 26 (0, 0))) ∧ (w'.heap[s_]? = some (.cells #[.int .i64 0, .slice none 0 0, .int .i64 0] 26 (0, 0))) ∧ (w.heap.size ≤ s_) ∧ (w.heap.size ≤ s_) ∧ (gb245 ≠ s_) ∧ (s_ ≠ gb245) ∧ (gb246 ≠ s_) ∧ (s_ ≠ gb246) ∧ (Below w.heap.size w w')) ?_ ?_
rotate_left
·(
intro hJ11
refine three_ (i := 4) (j := 6) (k := 11) (Ni := some 20) (Nj := some 22) (Nk := some 6) (bm 13 831) (bm 13 879) (bm 13 2863) rfl rfl rfl rfl rfl rfl (three_of HT_.out (by kernel_rfl)) (by decide) (by decide) (by decide) (fun K hK => ?_) (fun K hK => ?_) (fun K hK => ?_)
·(
skip
refine goes_ Try.func53 (by kernel_rfl) rfl #[.slice A0_1 l0_1.length c0_1] (by rfl) rfl rfl mt ?_
with_reducible refine (slices_Clone_string_string.calls _ _ l0_1 t248 _ ?side1 ?side2 A17.out).mono ?_
(case side1 => exact rc ((Kd.C_below HR0_1.out HB.out)))
(case side2 => exact HC0_1.out)
rintro e w73 ⟨v249, rfl, ho0, hb⟩
refine ⟨_, rfl, ?_⟩
have HO250 := am (Kd.R_lower ho0 (below_size (rb2 HB GE245 GE246)))
replace BK245 := am (blk_below (rk BK245) hb)
replace BK246 := am (blk_below (rk BK246) hb)
replace HB := am (below_step (rb2 HB GE245 GE246) hb)
(try clear hb)
(try clear ho0)
refine hK.out _ _ (bc3 BK245) (fun hHeld => ?_)
clear hK K
refine norm_ (a' := _) (show Act.put _ (some 20) _ = _ from na) ?_
exact norm_ nz (hJ4 (v249) _ ⟨hHeld, (rr HO250), (rk BK245), (rk BK246), (rb2 HB GE245 GE246)⟩)
)
·(
skip
refine Kd.R_lit_step Kd.string _ 9 ?hg (N := 22) ?hd (xs := ([a1] : List ByteArray)) (inner := [.string a1]) (ok := fun _ => True) (okp := fun _ => True) ?hr ?hp (fun _ hk => hk) trivial (Below.refl _ _) (Nat.le_refl _) (by simp) ?_; (case hd => rfl); (case hg => rfl); (case hr => first | (go_simp; done) | (go_simp; rfl)); (case hp => exact (Reps.one (show Kd.M Kd.string _ _ _ a1 [.string a1] from rfl) (Reps.none _ _)))
intro v252 w73 ho74 hb hg_ hnew_
clear hg_ hnew_
(first | rw [← Ny251.out] at ho74 | (simp only [Int.reduceToNat] at ho74; rw [← Ny251.out] at ho74))
have HO253 := am (Kd.R_lower ho74 (below_size (rb2 HB GE245 GE246)))
replace BK245 := am (blk_below (rk BK245) hb)
replace BK246 := am (blk_below (rk BK246) hb)
replace HB := am (below_step (rb2 HB GE245 GE246) hb)
clear hb ho74
refine hK.out _ _ (bc3 BK245) (fun hHeld => ?_)
clear hK K
refine norm_ (a' := _) (show Act.put _ (some 22) _ = _ from na) ?_
exact norm_ nz (hJ6 (v252) _ ⟨hHeld, (rr HO253), (rk BK245), (rk BK246), (rb2 HB GE245 GE246)⟩)
)
·(
skip
refine box_step ?hg (N := 6) ?hd (cs := #[.int .i64 0, .slice none 0 0, .int .i64 0]) (t := 26) ?hr ?_; (case hd => rfl); (case hg => rfl); (case hr => first | (go_simp; done) | (go_simp; rfl))
intro gb257 hg w73 hbox hb
have BK257 := am (hbox)
have GW257 := am (gw hg (rb2 HB GE245 GE246))
have GE257 := GW257
replace HB := am (below_step (rb2 HB GE245 GE246) hb)
have NB245_257 := am (nl hg (rk BK245))
have NB257_245 := am (ng hg (rk BK245))
replace BK245 := am (blk_below (rk BK245) hb)
have NB246_257 := am (nl hg (rk BK246))
have NB257_246 := am (ng hg (rk BK246))
replace BK246 := am (blk_below (rk BK246) hb)
clear hb hbox hg
refine hK.out _ _ (bc3 BK245) (fun hHeld => ?_)
clear hK K
refine norm_ (a' := _) (show Act.put _ (some 6) _ = _ from na) ?_
exact norm_ nz (hJ11 (gb257) _ ⟨hHeld, (rk BK245), (rk BK246), (rk BK257), GW257.out, GE257.out, NB245_257.out, NB257_245.out, NB246_257.out, NB257_246.out, (rb3 HB GE245 GE246 GE257)⟩)
)
)
·(
skip
rintro gb257 w74 ⟨hHeld, h0_, h1_, h2_, h3_, h4_, h5_, h6_, h7_, h8_, h9_⟩
(try dsimp only at hHeld h0_ h1_ h2_ h3_ h4_ h5_ h6_ h7_ h8_ h9_)
replace BK245 := am h0_; replace BK246 := am h1_; have BK257 := am h2_; have GW257 := am h3_; have GE257 := am h4_; have NB245_257 := am h5_; have NB257_245 := am h6_; have NB246_257 := am h7_; have NB257_246 := am h8_; replace HB := am h9_
clear h0_ h1_ h2_ h3_ h4_ h5_ h6_ h7_ h8_ h9_
refine norm_ (a' := _) nr ?_
refine two_ (i := 4) (j := 6) (Ni := some 20) (Nj := some 22) (bm 13 2879) (bm 13 2927) rfl rfl rfl rfl (two_of HT_.out (by kernel_rfl)) (by decide) (by decide) (fun K hK => ?_) (fun K hK => ?_)
·(
skip
refine goes_ Try.func53 (by kernel_rfl) rfl #[.slice A0_1 l0_1.length c0_1] (by rfl) rfl rfl mt ?_
with_reducible refine (slices_Clone_string_string.calls _ _ l0_1 t248 _ ?side1 ?side2 A17.out).mono ?_
(case side1 => exact rc ((Kd.C_below HR0_1.out HB.out)))
(case side2 => exact HC0_1.out)
rintro e w75 ⟨v249, rfl, ho0, hb⟩
refine ⟨_, rfl, ?_⟩
have HO250 := am (Kd.R_lower ho0 (below_size (rb3 HB GE245 GE246 GE257)))
replace BK245 := am (blk_below (rk BK245) hb)
replace BK246 := am (blk_below (rk BK246) hb)
replace BK257 := am (blk_below (rk BK257) hb)
replace HB := am (below_step (rb3 HB GE245 GE246 GE257) hb)
(try clear hb)
(try clear ho0)
refine hK.out _ _ (bc3 BK245) (fun hHeld => ?_)
clear hK K
refine norm_ (a' := _) (show Act.put _ (some 20) _ = _ from na) ?_
exact norm_ nz (hJ4_11 (v249, gb257) _ ⟨hHeld, (rr HO250), (rk BK245), (rk BK246), (rk BK257), GW257.out, GE257.out, NB245_257.out, NB257_245.out, NB246_257.out, NB257_246.out, (rb3 HB GE245 GE246 GE257)⟩)
)
·(
skip
refine Kd.R_lit_step Kd.string _ 9 ?hg (N := 22) ?hd (xs := ([a1] : List ByteArray)) (inner := [.string a1]) (ok := fun _ => True) (okp := fun _ => True) ?hr ?hp (fun _ hk => hk) trivial (Below.refl _ _) (Nat.le_refl _) (by simp) ?_; (case hd => rfl); (case hg => rfl); (case hr => first | (go_simp; done) | (go_simp; rfl)); (case hp => exact (Reps.one (show Kd.M Kd.string _ _ _ a1 [.string a1] from rfl) (Reps.none _ _)))
intro v252 w75 ho76 hb hg_ hnew_
clear hg_ hnew_
(first | rw [← Ny251.out] at ho76 | (simp only [Int.reduceToNat] at ho76; rw [← Ny251.out] at ho76))
have HO253 := am (Kd.R_lower ho76 (below_size (rb3 HB GE245 GE246 GE257)))
replace BK245 := am (blk_below (rk BK245) hb)
replace BK246 := am (blk_below (rk BK246) hb)
replace BK257 := am (blk_below (rk BK257) hb)
replace HB := am (below_step (rb3 HB GE245 GE246 GE257) hb)
clear hb ho76
refine hK.out _ _ (bc3 BK245) (fun hHeld => ?_)
clear hK K
refine norm_ (a' := _) (show Act.put _ (some 22) _ = _ from na) ?_
exact norm_ nz (hJ6_11 (v252, gb257) _ ⟨hHeld, (rr HO253), (rk BK245), (rk BK246), (rk BK257), GW257.out, GE257.out, NB245_257.out, NB257_245.out, NB246_257.out, NB257_246.out, (rb3 HB GE245 GE246 GE257)⟩)
)
)
)
·(
skip
rintro v252 w75 ⟨hHeld, h0_, h1_, h2_, h3_⟩
(try dsimp only at hHeld h0_ h1_ h2_ h3_)
have HO253 := am h0_; replace BK245 := am h1_; replace BK246 := am h2_; replace HB := am h3_
clear h0_ h1_ h2_ h3_
refine norm_ (a' := _) nr ?_
refine two_ (i := 4) (j := 11) (Ni := some 20) (Nj := some 6) (bm 13 895) (bm 13 2927) rfl rfl rfl rfl (two_of HT_.out (by kernel_rfl)) (by decide) (by decide) (fun K hK => ?_) (fun K hK => ?_)
·(
skip
refine goes_ Try.func53 (by kernel_rfl) rfl #[.slice A0_1 l0_1.length c0_1] (by rfl) rfl rfl mt ?_
with_reducible refine (slices_Clone_string_string.calls _ _ l0_1 t248 _ ?side1 ?side2 A17.out).mono ?_
(case side1 => exact rc ((Kd.C_below HR0_1.out HB.out)))
(case side2 => exact HC0_1.out)
rintro e w76 ⟨v249, rfl, ho0, hb⟩
refine ⟨_, rfl, ?_⟩
have HO250 := am (Kd.R_lower (Kd.R_new' ho0 (Kd.R_lt (rr HO253))) (below_size (rb2 HB GE245 GE246)))
replace HO253 := am (Kd.R_elder' (rr HO253) (Kd.R_base ho0) hb)
replace BK245 := am (blk_below (rk BK245) hb)
replace BK246 := am (blk_below (rk BK246) hb)
replace HB := am (below_step (rb2 HB GE245 GE246) hb)
(try clear hb)
(try clear ho0)
refine hK.out _ _ (bc3 BK245) (fun hHeld => ?_)
clear hK K
refine norm_ (a' := _) (show Act.put _ (some 20) _ = _ from na) ?_
exact norm_ nz (hJ4_6 (v249, v252) _ ⟨hHeld, (rrm HO250), (rrm HO253), (rk BK245), (rk BK246), (rb2 HB GE245 GE246)⟩)
)
·(
skip
refine box_step ?hg (N := 6) ?hd (cs := #[.int .i64 0, .slice none 0 0, .int .i64 0]) (t := 26) ?hr ?_; (case hd => rfl); (case hg => rfl); (case hr => first | (go_simp; done) | (go_simp; rfl))
intro gb257 hg w76 hbox hb
replace HO253 := am (Kd.R_below (rr HO253) hb)
have BK257 := am (hbox)
have GW257 := am (gw hg (rb2 HB GE245 GE246))
have GE257 := GW257
replace HB := am (below_step (rb2 HB GE245 GE246) hb)
have NB245_257 := am (nl hg (rk BK245))
have NB257_245 := am (ng hg (rk BK245))
replace BK245 := am (blk_below (rk BK245) hb)
have NB246_257 := am (nl hg (rk BK246))
have NB257_246 := am (ng hg (rk BK246))
replace BK246 := am (blk_below (rk BK246) hb)
clear hb hbox hg
refine hK.out _ _ (bc3 BK245) (fun hHeld => ?_)
clear hK K
refine norm_ (a' := _) (show Act.put _ (some 6) _ = _ from na) ?_
exact norm_ nz (hJ6_11 (v252, gb257) _ ⟨hHeld, (rr HO253), (rk BK245), (rk BK246), (rk BK257), GW257.out, GE257.out, NB245_257.out, NB257_245.out, NB246_257.out, NB257_246.out, (rb3 HB GE245 GE246 GE257)⟩)
)
)
)
·(
skip
rintro v249 w74 ⟨hHeld, h0_, h1_, h2_, h3_⟩
(try dsimp only at hHeld h0_ h1_ h2_ h3_)
have HO250 := am h0_; replace BK245 := am h1_; replace BK246 := am h2_; replace HB := am h3_
clear h0_ h1_ h2_ h3_
refine norm_ (a' := _) nr ?_
refine two_ (i := 6) (j := 11) (Ni := some 22) (Nj := some 6) (bm 13 895) (bm 13 2879) rfl rfl rfl rfl (two_of HT_.out (by kernel_rfl)) (by decide) (by decide) (fun K hK => ?_) (fun K hK => ?_)
·(
skip
refine Kd.R_lit_step Kd.string _ 9 ?hg (N := 22) ?hd (xs := ([a1] : List ByteArray)) (inner := [.string a1]) (ok := fun _ => True) (okp := fun _ => True) ?hr ?hp (fun _ hk => hk) trivial (Below.refl _ _) (Nat.le_refl _) (by simp) ?_; (case hd => rfl); (case hg => rfl); (case hr => first | (go_simp; done) | (go_simp; rfl)); (case hp => exact (Reps.one (show Kd.M Kd.string _ _ _ a1 [.string a1] from rfl) (Reps.none _ _)))
intro v252 w75 ho76 hb hg_ hnew_
clear hg_ hnew_
(first | rw [← Ny251.out] at ho76 | (simp only [Int.reduceToNat] at ho76; rw [← Ny251.out] at ho76))
have HO253 := am (Kd.R_lower (Kd.R_new' ho76 (Kd.R_lt (rr HO250))) (below_size (rb2 HB GE245 GE246)))
replace HO250 := am (Kd.R_elder' (rr HO250) (Kd.R_base ho76) hb)
replace BK245 := am (blk_below (rk BK245) hb)
replace BK246 := am (blk_below (rk BK246) hb)
replace HB := am (below_step (rb2 HB GE245 GE246) hb)
clear hb ho76
refine hK.out _ _ (bc3 BK245) (fun hHeld => ?_)
clear hK K
refine norm_ (a' := _) (show Act.put _ (some 22) _ = _ from na) ?_
exact norm_ nz (hJ4_6 (v249, v252) _ ⟨hHeld, (rrm HO250), (rrm HO253), (rk BK245), (rk BK246), (rb2 HB GE245 GE246)⟩)
)
·(
skip
refine box_step ?hg (N := 6) ?hd (cs := #[.int .i64 0, .slice none 0 0, .int .i64 0]) (t := 26) ?hr ?_; (case hd => rfl); (case hg => rfl); (case hr => first | (go_simp; done) | (go_simp; rfl))
intro gb257 hg w75 hbox hb
replace HO250 := am (Kd.R_below (rr HO250) hb)
have BK257 := am (hbox)
have GW257 := am (gw hg (rb2 HB GE245 GE246))
have GE257 := GW257
replace HB := am (below_step (rb2 HB GE245 GE246) hb)
have NB245_257 := am (nl hg (rk BK245))
have NB257_245 := am (ng hg (rk BK245))
replace BK245 := am (blk_below (rk BK245) hb)
have NB246_257 := am (nl hg (rk BK246))
have NB257_246 := am (ng hg (rk BK246))
replace BK246 := am (blk_below (rk BK246) hb)
clear hb hbox hg
refine hK.out _ _ (bc3 BK245) (fun hHeld => ?_)
clear hK K
refine norm_ (a' := _) (show Act.put _ (some 6) _ = _ from na) ?_
exact norm_ nz (hJ4_11 (v249, gb257) _ ⟨hHeld, (rr HO250), (rk BK245), (rk BK246), (rk BK257), GW257.out, GE257.out, NB245_257.out, NB257_245.out, NB246_257.out, NB257_246.out, (rb3 HB GE245 GE246 GE257)⟩)
)
)
)
·(
skip
rintro ⟨v252, gb257⟩ w76 ⟨hHeld, h0_, h1_, h2_, h3_, h4_, h5_, h6_, h7_, h8_, h9_, h10_⟩
(try dsimp only at hHeld h0_ h1_ h2_ h3_ h4_ h5_ h6_ h7_ h8_ h9_ h10_)
have HO253 := am h0_; replace BK245 := am h1_; replace BK246 := am h2_; have BK257 := am h3_; have GW257 := am h4_; have GE257 := am h5_; have NB245_257 := am h6_; have NB257_245 := am h7_; have NB246_257 := am h8_; have NB257_246 := am h9_; replace HB := am h10_
clear h0_ h1_ h2_ h3_ h4_ h5_ h6_ h7_ h8_ h9_ h10_
refine norm_ (a' := _) nr ?_
refine one_ (i := 4) (N := some 20) (bm 13 2943) rfl rfl (one_of HT_.out (by kernel_rfl)) (by decide) (fun K hK => ?_)
refine goes_ Try.func53 (by kernel_rfl) rfl #[.slice A0_1 l0_1.length c0_1] (by rfl) rfl rfl mt ?_
with_reducible refine (slices_Clone_string_string.calls _ _ l0_1 t248 _ ?side1 ?side2 A17.out).mono ?_
(case side1 => exact rc ((Kd.C_below HR0_1.out HB.out)))
(case side2 => exact HC0_1.out)
rintro e w77 ⟨v249, rfl, ho0, hb⟩
refine ⟨_, rfl, ?_⟩
have HO250 := am (Kd.R_lower (Kd.R_new' ho0 (Kd.R_lt (rr HO253))) (below_size (rb3 HB GE245 GE246 GE257)))
replace HO253 := am (Kd.R_elder' (rr HO253) (Kd.R_base ho0) hb)
replace BK245 := am (blk_below (rk BK245) hb)
replace BK246 := am (blk_below (rk BK246) hb)
replace BK257 := am (blk_below (rk BK257) hb)
replace HB := am (below_step (rb3 HB GE245 GE246 GE257) hb)
(try clear hb)
(try clear ho0)
refine hK.out _ _ (bc3 BK245) (fun hHeld => ?_)
clear hK K
refine norm_ (a' := _) (show Act.put _ (some 20) _ = _ from na) ?_
exact norm_ nz (hJ4_6_11 (v249, v252, gb257) _ ⟨hHeld, (rrm HO250), (rrm HO253), (rk BK245), (rk BK246), (rk BK257), GW257.out, GE257.out, NB245_257.out, NB257_245.out, NB246_257.out, NB257_246.out, (rb3 HB GE245 GE246 GE257)⟩)
)
)
·(
skip
rintro ⟨v249, gb257⟩ w75 ⟨hHeld, h0_, h1_, h2_, h3_, h4_, h5_, h6_, h7_, h8_, h9_, h10_⟩
(try dsimp only at hHeld h0_ h1_ h2_ h3_ h4_ h5_ h6_ h7_ h8_ h9_ h10_)
have HO250 := am h0_; replace BK245 := am h1_; replace BK246 := am h2_; have BK257 := am h3_; have GW257 := am h4_; have GE257 := am h5_; have NB245_257 := am h6_; have NB257_245 := am h7_; have NB246_257 := am h8_; have NB257_246 := am h9_; replace HB := am h10_
clear h0_ h1_ h2_ h3_ h4_ h5_ h6_ h7_ h8_ h9_ h10_
refine norm_ (a' := _) nr ?_
refine one_ (i := 6) (N := some 22) (bm 13 2943) rfl rfl (one_of HT_.out (by kernel_rfl)) (by decide) (fun K hK => ?_)
refine Kd.R_lit_step Kd.string _ 9 ?hg (N := 22) ?hd (xs := ([a1] : List ByteArray)) (inner := [.string a1]) (ok := fun _ => True) (okp := fun _ => True) ?hr ?hp (fun _ hk => hk) trivial (Below.refl _ _) (Nat.le_refl _) (by simp) ?_; (case hd => rfl); (case hg => rfl); (case hr => first | (go_simp; done) | (go_simp; rfl)); (case hp => exact (Reps.one (show Kd.M Kd.string _ _ _ a1 [.string a1] from rfl) (Reps.none _ _)))
intro v252 w76 ho77 hb hg_ hnew_
clear hg_ hnew_
(first | rw [← Ny251.out] at ho77 | (simp only [Int.reduceToNat] at ho77; rw [← Ny251.out] at ho77))
have HO253 := am (Kd.R_lower (Kd.R_new' ho77 (Kd.R_lt (rr HO250))) (below_size (rb3 HB GE245 GE246 GE257)))
replace HO250 := am (Kd.R_elder' (rr HO250) (Kd.R_base ho77) hb)
replace BK245 := am (blk_below (rk BK245) hb)
replace BK246 := am (blk_below (rk BK246) hb)
replace BK257 := am (blk_below (rk BK257) hb)
replace HB := am (below_step (rb3 HB GE245 GE246 GE257) hb)
clear hb ho77
refine hK.out _ _ (bc3 BK245) (fun hHeld => ?_)
clear hK K
refine norm_ (a' := _) (show Act.put _ (some 22) _ = _ from na) ?_
exact norm_ nz (hJ4_6_11 (v249, v252, gb257) _ ⟨hHeld, (rrm HO250), (rrm HO253), (rk BK245), (rk BK246), (rk BK257), GW257.out, GE257.out, NB245_257.out, NB257_245.out, NB246_257.out, NB257_246.out, (rb3 HB GE245 GE246 GE257)⟩)
)
)
·(
skip
rintro ⟨v249, v252⟩ w76 ⟨hHeld, h0_, h1_, h2_, h3_, h4_⟩
(try dsimp only at hHeld h0_ h1_ h2_ h3_ h4_)
have HO250 := am h0_; have HO253 := am h1_; replace BK245 := am h2_; replace BK246 := am h3_; replace HB := am h4_
clear h0_ h1_ h2_ h3_ h4_
obtain ⟨Ao78, co78, eo78⟩ := Kd.R_slice HO253.out
(first | subst eo78 | (injection eo78 with f1_ f2_ f3_; have f4_ := f1_.symm; have f5_ := f3_.symm; clear f1_ f2_ f3_; subst f4_; subst f5_))
refine norm_ (a' := _) nr ?_
refine two_ (i := 7) (j := 11) (Ni := some 23) (Nj := some 6) (bm 13 1023) (bm 13 2943) rfl rfl rfl rfl (two_of HT_.out (by kernel_rfl)) (by decide) (by decide) (fun K hK => ?_) (fun K hK => ?_)
·(
skip
refine Kd.R_append_rows_step Kd.string (w0 := w) w.heap.size (by rfl) (.tmp 20) (.tmp 22) 24 9 (.string ⟨#[]⟩) 16 rfl Try.underlying24 info9 rfl (by decide) (by omega) v249 t248 y251 _ _ _ (fun k_ => some k_ ≠ (.slice Ao78 y251.length co78 : Value).ownBlock) (fun _ => False) rfl rfl ?aO ?aR (fun _ _ h => h) (fun _ h => h.elim) ?aF ?aB ?aS ?aL ?_
(case aR => repeat (first | exact (Kd.R_reads' HO253.out).2.2 | (with_reducible refine Kd.C_alloc ?_ _) | (with_reducible refine Kd.C_drewN ?_ _) | (with_reducible refine Kd.C_drew ?_)))
(case aB => exact (rb2 HB GE245 GE246))
(case aF => exact (fun k_ hk => Kd.fresh' (Kd.R_lt (rr HO253)) k_ hk))
(case aO => exact (rr HO250))
(case aS => exact (below_size (rb2 HB GE245 GE246)))
(case aL => have := LMc18.out; omega)
intro v255 w77 ho hb hg hat
rw [← Ny254.out] at ho
replace BK245 := am (blk_grown (rk BK245) hg (Kd.R_ne HO250.out BK245.out (by decide)))
replace BK246 := am (blk_grown (rk BK246) hg (Kd.R_ne HO250.out BK246.out (by decide)))
replace HO253 := am (Kd.R_after (ok := (fun _ => True)) (by (with_reducible repeat (first | apply r1 | apply r2 | apply r3)); exact Kd.R_mono HO253.out (fun _ hk => ⟨trivial, hk⟩)) hg hat)
replace HB := am (hb)
have HO256 := am (ho)
clear HO250
clear ho hb hg hat
obtain ⟨Ao79, co79, eo79⟩ := Kd.R_slice HO256.out
(first | subst eo79 | (injection eo79 with f1_ f2_ f3_; have f4_ := f1_.symm; have f5_ := f3_.symm; clear f1_ f2_ f3_; subst f4_; subst f5_))
refine hK.out _ _ (bc3 BK245) (fun hHeld => ?_)
clear hK K
refine norm_ (a' := _) (show Act.put _ (some 23) _ = _ from na) ?_
refine pu_ 10 26 (bm 13 2047) HT_.out ?_
exact norm_ nz (hJ4_6_7 (v249, .slice Ao78 y251.length co78, .slice Ao79 y254.length co79) _ ⟨hHeld, (rrm HO253), (rr HO256), (rk BK245), (rk BK246), (rb2 HB GE245 GE246)⟩)
)
·(
skip
refine box_step ?hg (N := 6) ?hd (cs := #[.int .i64 0, .slice none 0 0, .int .i64 0]) (t := 26) ?hr ?_; (case hd => rfl); (case hg => rfl); (case hr => first | (go_simp; done) | (go_simp; rfl))
intro gb257 hg w77 hbox hb
replace HO250 := am (Kd.R_below (rr HO250) hb)
replace HO253 := am (Kd.R_below (rr HO253) hb)
have BK257 := am (hbox)
have GW257 := am (gw hg (rb2 HB GE245 GE246))
have GE257 := GW257
replace HB := am (below_step (rb2 HB GE245 GE246) hb)
have NB245_257 := am (nl hg (rk BK245))
have NB257_245 := am (ng hg (rk BK245))
replace BK245 := am (blk_below (rk BK245) hb)
have NB246_257 := am (nl hg (rk BK246))
have NB257_246 := am (ng hg (rk BK246))
replace BK246 := am (blk_below (rk BK246) hb)
clear hb hbox hg
refine hK.out _ _ (bc3 BK245) (fun hHeld => ?_)
clear hK K
refine norm_ (a' := _) (show Act.put _ (some 6) _ = _ from na) ?_
exact norm_ nz (hJ4_6_11 (v249, .slice Ao78 y251.length co78, gb257) _ ⟨hHeld, (rr HO250), (rr HO253), (rk BK245), (rk BK246), (rk BK257), GW257.out, GE257.out, NB245_257.out, NB257_245.out, NB246_257.out, NB257_246.out, (rb3 HB GE245 GE246 GE257)⟩)
)
)
)
·(
skip
rintro ⟨v249, v252, gb257⟩ w77 ⟨hHeld, h0_, h1_, h2_, h3_, h4_, h5_, h6_, h7_, h8_, h9_, h10_, h11_⟩
(try dsimp only at hHeld h0_ h1_ h2_ h3_ h4_ h5_ h6_ h7_ h8_ h9_ h10_ h11_)
have HO250 := am h0_; have HO253 := am h1_; replace BK245 := am h2_; replace BK246 := am h3_; have BK257 := am h4_; have GW257 := am h5_; have GE257 := am h6_; have NB245_257 := am h7_; have NB257_245 := am h8_; have NB246_257 := am h9_; have NB257_246 := am h10_; replace HB := am h11_
clear h0_ h1_ h2_ h3_ h4_ h5_ h6_ h7_ h8_ h9_ h10_ h11_
obtain ⟨Ao79, co79, eo79⟩ := Kd.R_slice HO253.out
(first | subst eo79 | (injection eo79 with f1_ f2_ f3_; have f4_ := f1_.symm; have f5_ := f3_.symm; clear f1_ f2_ f3_; subst f4_; subst f5_))
refine norm_ (a' := _) nr ?_
refine one_ (i := 7) (N := some 23) (bm 13 3071) rfl rfl (one_of HT_.out (by kernel_rfl)) (by decide) (fun K hK => ?_)
refine Kd.R_append_rows_step Kd.string (w0 := w) w.heap.size (by rfl) (.tmp 20) (.tmp 22) 24 9 (.string ⟨#[]⟩) 16 rfl Try.underlying24 info9 rfl (by decide) (by omega) v249 t248 y251 _ _ _ (fun k_ => some k_ ≠ (.slice Ao79 y251.length co79 : Value).ownBlock) (fun _ => False) rfl rfl ?aO ?aR (fun _ _ h => h) (fun _ h => h.elim) ?aF ?aB ?aS ?aL ?_
(case aR => repeat (first | exact (Kd.R_reads' HO253.out).2.2 | (with_reducible refine Kd.C_alloc ?_ _) | (with_reducible refine Kd.C_drewN ?_ _) | (with_reducible refine Kd.C_drew ?_)))
(case aB => exact (rb3 HB GE245 GE246 GE257))
(case aF => exact (fun k_ hk => Kd.fresh' (Kd.R_lt (rr HO253)) k_ hk))
(case aO => exact (rr HO250))
(case aS => exact (below_size (rb3 HB GE245 GE246 GE257)))
(case aL => have := LMc18.out; omega)
intro v255 w78 ho hb hg hat
rw [← Ny254.out] at ho
replace BK245 := am (blk_grown (rk BK245) hg (Kd.R_ne HO250.out BK245.out (by decide)))
replace BK246 := am (blk_grown (rk BK246) hg (Kd.R_ne HO250.out BK246.out (by decide)))
replace HO253 := am (Kd.R_after (ok := (fun _ => True)) (by (with_reducible repeat (first | apply r1 | apply r2 | apply r3)); exact Kd.R_mono HO253.out (fun _ hk => ⟨trivial, hk⟩)) hg hat)
replace BK257 := am (blk_grown (rk BK257) hg (Kd.R_ne HO250.out BK257.out (by decide)))
replace HB := am (hb)
have HO256 := am (ho)
clear HO250
clear ho hb hg hat
obtain ⟨Ao80, co80, eo80⟩ := Kd.R_slice HO256.out
(first | subst eo80 | (injection eo80 with f1_ f2_ f3_; have f4_ := f1_.symm; have f5_ := f3_.symm; clear f1_ f2_ f3_; subst f4_; subst f5_))
refine hK.out _ _ (bc3 BK245) (fun hHeld => ?_)
clear hK K
refine norm_ (a' := _) (show Act.put _ (some 23) _ = _ from na) ?_
refine pu_ 10 26 (bm 13 4095) HT_.out ?_
exact norm_ nz (hJ4_6_7_11 (v249, .slice Ao79 y251.length co79, .slice Ao80 y254.length co80, gb257) _ ⟨hHeld, (rrm HO253), (rr HO256), (rk BK245), (rk BK246), (rk BK257), GW257.out, GE257.out, NB245_257.out, NB257_245.out, NB246_257.out, NB257_246.out, (rb3 HB GE245 GE246 GE257)⟩)
)
)
·(
skip
rintro ⟨v249, v252, v255⟩ w79 ⟨hHeld, h0_, h1_, h2_, h3_, h4_⟩
(try dsimp only at hHeld h0_ h1_ h2_ h3_ h4_)
have HO253 := am h0_; have HO256 := am h1_; replace BK245 := am h2_; replace BK246 := am h3_; replace HB := am h4_
clear h0_ h1_ h2_ h3_ h4_
obtain ⟨Ao80, co80, eo80⟩ := Kd.R_slice HO256.out
(first | subst eo80 | (injection eo80 with f1_ f2_ f3_; have f4_ := f1_.symm; have f5_ := f3_.symm; clear f1_ f2_ f3_; subst f4_; subst f5_))
refine norm_ (a' := _) nr ?_
refine one_ (i := 11) (N := some 6) (bm 13 4095) rfl rfl (one_of HT_.out (by kernel_rfl)) (by decide) (fun K hK => ?_)
refine box_step ?hg (N := 6) ?hd (cs := #[.int .i64 0, .slice none 0 0, .int .i64 0]) (t := 26) ?hr ?_; (case hd => rfl); (case hg => rfl); (case hr => first | (go_simp; done) | (go_simp; rfl))
intro gb257 hg w81 hbox hb
replace HO253 := am (Kd.R_below (rr HO253) hb)
replace HO256 := am (Kd.R_below (rr HO256) hb)
have BK257 := am (hbox)
have GW257 := am (gw hg (rb2 HB GE245 GE246))
have GE257 := GW257
replace HB := am (below_step (rb2 HB GE245 GE246) hb)
have NB245_257 := am (nl hg (rk BK245))
have NB257_245 := am (ng hg (rk BK245))
replace BK245 := am (blk_below (rk BK245) hb)
have NB246_257 := am (nl hg (rk BK246))
have NB257_246 := am (ng hg (rk BK246))
replace BK246 := am (blk_below (rk BK246) hb)
clear hb hbox hg
refine hK.out _ _ (bc3 BK245) (fun hHeld => ?_)
clear hK K
refine norm_ (a' := _) (show Act.put _ (some 6) _ = _ from na) ?_
exact norm_ nz (hJ4_6_7_11 (v249, v252, .slice Ao80 y254.length co80, gb257) _ ⟨hHeld, (rr HO253), (rr HO256), (rk BK245), (rk BK246), (rk BK257), GW257.out, GE257.out, NB245_257.out, NB257_245.out, NB246_257.out, NB257_246.out, (rb3 HB GE245 GE246 GE257)⟩)
)
)
rintro ⟨v249, v252, v255, gb257⟩ w80 ⟨hHeld, h0_, h1_, h2_, h3_, h4_, h5_, h6_, h7_, h8_, h9_, h10_, h11_⟩
(try dsimp only at hHeld h0_ h1_ h2_ h3_ h4_ h5_ h6_ h7_ h8_ h9_ h10_ h11_)
have HO253 := am h0_; have HO256 := am h1_; replace BK245 := am h2_; replace BK246 := am h3_; have BK257 := am h4_; have GW257 := am h5_; have GE257 := am h6_; have NB245_257 := am h7_; have NB257_245 := am h8_; have NB246_257 := am h9_; have NB257_246 := am h10_; replace HB := am h11_
clear h0_ h1_ h2_ h3_ h4_ h5_ h6_ h7_ h8_ h9_ h10_ h11_
obtain ⟨Ao81, co81, eo81⟩ := Kd.R_slice HO256.out
(first | subst eo81 | (injection eo81 with f1_ f2_ f3_; have f4_ := f1_.symm; have f5_ := f3_.symm; clear f1_ f2_ f3_; subst f4_; subst f5_))
refine norm_ (a' := _) nr ?_
refine one_ (i := 12) (N := none) (bm 13 8191) rfl rfl (one_of HT_.out (by kernel_rfl)) (by decide) (fun K hK => ?_)
have hs82 : w80.cell? ⟨gb257, 0, none⟩ = some (.int .i64 0) := (blk_cell BK257.out 0).trans rfl
have hfs82 := blk_frozen BK257.out 0
have hns82_0 := NB245_257.out
have hns82_1 := NB246_257.out
have hms82_0 := NB257_245.out
have hms82_1 := NB257_246.out
have hs83 : w80.cell? ⟨gb257, 1, none⟩ = some (.slice none 0 0) := (blk_cell BK257.out 1).trans rfl
have hfs83 := blk_frozen BK257.out 1
have hns83_0 := NB245_257.out
have hns83_1 := NB246_257.out
have hms83_0 := NB257_245.out
have hms83_1 := NB257_246.out
have hs84 : w80.cell? ⟨gb257, 2, none⟩ = some (.int .i64 0) := (blk_cell BK257.out 2).trans rfl
have hfs84 := blk_frozen BK257.out 2
have hns84_0 := NB245_257.out
have hns84_1 := NB246_257.out
have hms84_0 := NB257_245.out
have hms84_1 := NB257_246.out
refine skip_ (w1 := ?_) (by rfl) rfl ?_ ?_
rotate_left
·(
go_simp
rfl
)
refine hK.out _ _ ⟨((cell_far (p := ⟨gb257, _, none⟩) NB245_257.out _).trans (((cell_far (p := ⟨gb257, _, none⟩) NB245_257.out _).trans (((cell_far (p := ⟨gb257, _, none⟩) NB245_257.out _).trans (hHeld.1)))))), ((cell_far (p := ⟨gb257, _, none⟩) NB245_257.out _).trans (((cell_far (p := ⟨gb257, _, none⟩) NB245_257.out _).trans (((cell_far (p := ⟨gb257, _, none⟩) NB245_257.out _).trans (hHeld.2.1)))))), ((cell_far (p := ⟨gb257, _, none⟩) NB245_257.out _).trans (((cell_far (p := ⟨gb257, _, none⟩) NB245_257.out _).trans (((cell_far (p := ⟨gb257, _, none⟩) NB245_257.out _).trans (hHeld.2.2))))))⟩ (fun hHeld => ?_)
clear hK K
refine done_ (done_of HT_.out (by kernel_rfl)) ?_
have hnb85 := NB257_245.out
have hnc85 := NB245_257.out
have hnb86 := NB257_246.out
have hnc86 := NB246_257.out
have hcz87_0 : w80.cell? ⟨gb257, 0, none⟩ = some (.int .i64 0) := (blk_cell BK257.out 0).trans rfl
have hcz87_1 : w80.cell? ⟨gb257, 1, none⟩ = some (.slice none 0 0) := (blk_cell BK257.out 1).trans rfl
have hcz87_2 : w80.cell? ⟨gb257, 2, none⟩ = some (.int .i64 0) := (blk_cell BK257.out 2).trans rfl
have hfz87_0 := blk_frozen BK257.out 0
have hfz87_1 := blk_frozen BK257.out 1
have hfz87_2 := blk_frozen BK257.out 2
have hnb88 := NB245_246.out
have hnc88 := NB246_245.out
have hcz89_0 : w80.cell? ⟨gb245, 0, none⟩ = some (.int .i64 a0_0) := (blk_cell BK245.out 0).trans rfl
have hcz89_1 : w80.cell? ⟨gb245, 1, none⟩ = some (.slice A0_1 l0_1.length c0_1) := (blk_cell BK245.out 1).trans rfl
have hcz89_2 : w80.cell? ⟨gb245, 2, none⟩ = some (.int .i64 a0_2) := (blk_cell BK245.out 2).trans rfl
have hfz89_0 := blk_frozen BK245.out 0
have hfz89_1 := blk_frozen BK245.out 1
have hfz89_2 := blk_frozen BK245.out 2
have hcz90_0 : w80.cell? ⟨gb246, 0, none⟩ = some (.int .i64 0) := (blk_cell BK246.out 0).trans rfl
have hcz90_1 : w80.cell? ⟨gb246, 1, none⟩ = some (.slice none 0 0) := (blk_cell BK246.out 1).trans rfl
have hcz90_2 : w80.cell? ⟨gb246, 2, none⟩ = some (.int .i64 0) := (blk_cell BK246.out 2).trans rfl
have hfz90_0 := blk_frozen BK246.out 0
have hfz90_1 := blk_frozen BK246.out 1
have hfz90_2 := blk_frozen BK246.out 2
try go_wp2
refine bodyPost_ret (results_ct rfl _ _ gb246 26 #[.int .i64 0, .slice none 0 0, .int .i64 0] (0, 0) _ rfl (by (with_reducible repeat (first | apply k1 | apply k2 | apply k3)); refine blk_put (cs := #[.int .i64 0, .slice none 0 0, .int .i64 0]) ?_ 2 _ rfl; (with_reducible repeat (first | apply k1 | apply k2 | apply k3)); refine blk_put (cs := #[.int .i64 0, .slice none 0 0, .int .i64 0]) ?_ 1 _ rfl; (with_reducible repeat (first | apply k1 | apply k2 | apply k3)); refine blk_put (cs := #[.int .i64 0, .slice none 0 0, .int .i64 0]) ?_ 0 _ rfl; (with_reducible repeat (first | apply k1 | apply k2 | apply k3)); refine blk_far ?_ NB246_257.out _; (with_reducible repeat (first | apply k1 | apply k2 | apply k3)); refine blk_far ?_ NB246_257.out _; (with_reducible repeat (first | apply k1 | apply k2 | apply k3)); refine blk_far ?_ NB246_257.out _; (with_reducible repeat (first | apply k1 | apply k2 | apply k3)); exact BK246.out) Try.underlying26 rfl (by kernel_rfl)) rfl ?_
exact ⟨_, by first | rfl | (simp [errW_none, errW_some] <;> rfl) | (simp [*, errW_none, errW_some] <;> rfl), by first | exact Kd.R_nil _ _ _ _ _ | exact Kd.N_nil _ _ _ _ _ | exact Kd.V_nil _ _ _ _ _ | exact Kd.Q_nil _ _ _ _ _ | exact Kd.S_nil _ _ _ _ _, rb3 HB GE245 GE246 GE257⟩
)
·(
rw [if_neg c71] at H
have c71b0 : decide (1000000 < a0_2) = false := decide_eq_false c71
clear c71
simp only [Option.some.injEq, Prod.mk.injEq] at H
obtain ⟨rfl, rfl, rfl, rfl⟩ := H
try go_wp2
replace BK245 := am (blk_drew BK245.out)
replace BK246 := am (blk_drew BK246.out)
replace HB := am (below_drew1 HB.out)
refine start_ (n := 13) (S := fun w' => w'.cell? ⟨gb245, 0, none⟩ = some (.int .i64 a0_0) ∧ w'.cell? ⟨gb245, 1, none⟩ = some (.slice A0_1 l0_1.length c0_1) ∧ w'.cell? ⟨gb245, 2, none⟩ = some (.int .i64 a0_2)) (ds := []) (bm 13 0) (by kernel_rfl) rfl rfl (bc3 BK245) (fun hHeld => ?_); refine with_tabW impl_Keep.tab3 impl_Keep.bits3 (fun HT_ HW_ => ?_)
generalize wc.drew = w91 at BK245 BK246 HB hHeld ⊢
refine pu_ 0 16 (bm 13 1) HT_.out ?_
refine pu_ 2 18 (bm 13 5) HT_.out ?_
refine pu_ 5 21 (bm 13 37) HT_.out ?_
refine pu_ 8 24 (bm 13 293) HT_.out ?_
refine take_ (i := 1) (N := some 17) (v := ?_) (a' := ?_) (bm 13 295) rfl rfl (take_ofW HT_.out HW_.out (by kernel_rfl)) (fun _ _ _ h => h) (Or.inl ⟨by rfl, ?_⟩) hHeld ?_ ?_
rotate_left
·(
rintro w' ⟨s0, s1, s2⟩
go_simp
with_reducible rfl
)
rotate_left
·(
simp only [Act.put, List.setIfInBounds_toArray, List.set_cons_zero, List.set_cons_succ, i64_w, i32_w]
rfl
)
refine take_ (i := 3) (N := some 19) (v := ?_) (a' := ?_) (bm 13 303) rfl rfl (take_ofW HT_.out HW_.out (by kernel_rfl)) (fun _ _ _ h => h) (Or.inl ⟨by rfl, ?_⟩) hHeld ?_ ?_
rotate_left
·(
rintro w' ⟨s0, s1, s2⟩
go_simp
with_reducible rfl
)
rotate_left
·(
simp only [Act.put, List.setIfInBounds_toArray, List.set_cons_zero, List.set_cons_succ, i64_w, i32_w]
rfl
)
refine take_ (i := 9) (N := some 25) (v := ?_) (a' := ?_) (bm 13 815) rfl rfl (take_ofW HT_.out HW_.out (by kernel_rfl)) (fun _ _ _ h => h) (Or.inl ⟨by rfl, ?_⟩) hHeld ?_ ?_
rotate_left
·(
rintro w' ⟨s0, s1, s2⟩
go_simp
with_reducible rfl
)
rotate_left
·(
simp only [Act.put, List.setIfInBounds_toArray, List.set_cons_zero, List.set_cons_succ, i64_w, i32_w]
rfl
)
refine join_ (σ := Value × Value × Value × Nat) 1 (bm 13 4095) (fun s_ => [(20, s_.1), (22, s_.2.1), (23, s_.2.2.1), (6, .pointer (some ⟨s_.2.2.2, 0, none⟩)), (26, .agg #[.int .i64 a0_0, s_.2.2.1, .int .i64 a0_2])]) (fun s_ w' => (w'.cell? ⟨gb245, 0, none⟩ = some (.int .i64 a0_0) ∧ w'.cell? ⟨gb245, 1, none⟩ = some (.slice A0_1 l0_1.length c0_1) ∧ w'.cell? ⟨gb245, 2, none⟩ = some (.int .i64 a0_2)) ∧ (Kd.R Kd.string 9 w' w.heap.size (fun k_ => some k_ ≠ (s_.2.2.1 : Value).ownBlock) s_.2.1 y251) ∧ (Kd.R Kd.string 9 w' w.heap.size (fun k_ => some k_ ≠ (s_.2.1 : Value).ownBlock) s_.2.2.1 y254) ∧ (w'.heap[gb245]? = some (.cells #[.int .i64 a0_0, .slice A0_1 l0_1.length c0_1, .int .i64 a0_2] 26 (0, 0))) ∧ (w'.heap[gb246]? = some (.cells #[.int .i64 0, .slice none 0 0, .int .i64 0] 26 (0, 0))) ∧ (w'.heap[s_.2.2.2]? = some (.cells #[.int .i64 0, .slice none 0 0, .int .i64 0] 26 (0, 0))) ∧ (w.heap.size ≤ s_.2.2.2) ∧ (w.heap.size ≤ s_.2.2.2) ∧ (gb245 ≠ s_.2.2.2) ∧ (s_.2.2.2 ≠ gb245) ∧ (gb246 ≠ s_.2.2.2) ∧ (s_.2.2.2 ≠ gb246) ∧ (Below w.heap.size w w')) ?_ ?_
rotate_left
·(
intro hJ4_6_7_11
refine join_ (σ := Value × Value × Value) 2 (bm 13 2047) (fun s_ => [(20, s_.1), (22, s_.2.1), (23, s_.2.2), (26, .agg #[.int .i64 a0_0, s_.2.2, .int .i64 a0_2])]) (fun s_ w' => (w'.cell? ⟨gb245, 0, none⟩ = some (.int .i64 a0_0) ∧ w'.cell? ⟨gb245, 1, none⟩ = some (.slice A0_1 l0_1.length c0_1) ∧ w'.cell? ⟨gb245, 2, none⟩ = some (.int .i64 a0_2)) ∧ (Kd.R Kd.string 9 w' w.heap.size (fun k_ => some k_ ≠ (s_.2.2 : Value).ownBlock) s_.2.1 y251) ∧ (Kd.R Kd.string 9 w' w.heap.size (fun k_ => some k_ ≠ (s_.2.1 : Value).ownBlock) s_.2.2 y254) ∧ (w'.heap[gb245]? = some (.cells #[.int .i64 a0_0, .slice A0_1 l0_1.length c0_1, .int .i64 a0_2] 26 (0, 0))) ∧ (w'.heap[gb246]? = some (.cells #[.int .i64 0, .slice none 0 0, .int .i64 0] 26 (0, 0))) ∧ (Below w.heap.size w w')) ?_ ?_
rotate_left
·(
intro hJ4_6_7
refine join_ (σ := Value × Value × Nat) 3 (bm 13 2943) (fun s_ => [(20, s_.1), (22, s_.2.1), (6, .pointer (some ⟨s_.2.2, 0, none⟩))]) (fun s_ w' => (w'.cell? ⟨gb245, 0, none⟩ = some (.int .i64 a0_0) ∧ w'.cell? ⟨gb245, 1, none⟩ = some (.slice A0_1 l0_1.length c0_1) ∧ w'.cell? ⟨gb245, 2, none⟩ = some (.int .i64 a0_2)) ∧ (Kd.R Kd.string 9 w' w.heap.size (fun k_ => some k_ ≠ (s_.2.1 : Value).ownBlock) s_.1 t248) ∧ (Kd.R Kd.string 9 w' w.heap.size (fun k_ => some k_ ≠ (s_.1 : Value).ownBlock) s_.2.1 y251) ∧ (w'.heap[gb245]? = some (.cells #[.int .i64 a0_0, .slice A0_1 l0_1.length c0_1, .int .i64 a0_2] 26 (0, 0))) ∧ (w'.heap[gb246]? = some (.cells #[.int .i64 0, .slice none 0 0, .int .i64 0] 26 (0, 0))) ∧ (w'.heap[s_.2.2]? = some (.cells #[.int .i64 0, .slice none 0 0, .int .i64 0] 26 (0, 0))) ∧ (w.heap.size ≤ s_.2.2) ∧ (w.heap.size ≤ s_.2.2) ∧ (gb245 ≠ s_.2.2) ∧ (s_.2.2 ≠ gb245) ∧ (gb246 ≠ s_.2.2) ∧ (s_.2.2 ≠ gb246) ∧ (Below w.heap.size w w')) ?_ ?_
rotate_left
·(
intro hJ4_6_11
refine join_ (σ := Value × Value) 4 (bm 13 895) (fun s_ => [(20, s_.1), (22, s_.2)]) (fun s_ w' => (w'.cell? ⟨gb245, 0, none⟩ = some (.int .i64 a0_0) ∧ w'.cell? ⟨gb245, 1, none⟩ = some (.slice A0_1 l0_1.length c0_1) ∧ w'.cell? ⟨gb245, 2, none⟩ = some (.int .i64 a0_2)) ∧ (Kd.R Kd.string 9 w' w.heap.size (fun k_ => some k_ ≠ (s_.2 : Value).ownBlock) s_.1 t248) ∧ (Kd.R Kd.string 9 w' w.heap.size (fun k_ => some k_ ≠ (s_.1 : Value).ownBlock) s_.2 y251) ∧ (w'.heap[gb245]? = some (.cells #[.int .i64 a0_0, .slice A0_1 l0_1.length c0_1, .int .i64 a0_2] 26 (0, 0))) ∧ (w'.heap[gb246]? = some (.cells #[.int .i64 0, .slice none 0 0, .int .i64 0] 26 (0, 0))) ∧ (Below w.heap.size w w')) ?_ ?_
rotate_left
·(
intro hJ4_6
refine join_ (σ := Value × Nat) 4 (bm 13 2879) (fun s_ => [(20, s_.1), (6, .pointer (some ⟨s_.2, 0, none⟩))]) (fun s_ w' => (w'.cell? ⟨gb245, 0, none⟩ = some (.int .i64 a0_0) ∧ w'.cell? ⟨gb245, 1, none⟩ = some (.slice A0_1 l0_1.length c0_1) ∧ w'.cell? ⟨gb245, 2, none⟩ = some (.int .i64 a0_2)) ∧ (Kd.R Kd.string 9 w' w.heap.size (fun _ => True) s_.1 t248) ∧ (w'.heap[gb245]? = some (.cells #[.int .i64 a0_0, .slice A0_1 l0_1.length c0_1, .int .i64 a0_2] 26 (0, 0))) ∧ (w'.heap[gb246]? = some (.cells #[.int .i64 0, .slice none 0 0, .int .i64 0] 26 (0, 0))) ∧ (w'.heap[s_.2]? = some (.cells #[.int .i64 0, .slice none 0 0, .int .i64 0] 26 (0, 0))) ∧ (w.heap.size ≤ s_.2) ∧ (w.heap.size ≤ s_.2) ∧ (gb245 ≠ s_.2) ∧ (s_.2 ≠ gb245) ∧ (gb246 ≠ s_.2) ∧ (s_.2 ≠ gb246) ∧ (Below w.heap.size w w')) ?_ ?_
rotate_left
·(
intro hJ4_11
refine join_ (σ := Value × Nat) 4 (bm 13 2927) (fun s_ => [(22, s_.1), (6, .pointer (some ⟨s_.2, 0, none⟩))]) (fun s_ w' => (w'.cell? ⟨gb245, 0, none⟩ = some (.int .i64 a0_0) ∧ w'.cell? ⟨gb245, 1, none⟩ = some (.slice A0_1 l0_1.length c0_1) ∧ w'.cell? ⟨gb245, 2, none⟩ = some (.int .i64 a0_2)) ∧ (Kd.R Kd.string 9 w' w.heap.size (fun _ => True) s_.1 y251) ∧ (w'.heap[gb245]? = some (.cells #[.int .i64 a0_0, .slice A0_1 l0_1.length c0_1, .int .i64 a0_2] 26 (0, 0))) ∧ (w'.heap[gb246]? = some (.cells #[.int .i64 0, .slice none 0 0, .int .i64 0] 26 (0, 0))) ∧ (w'.heap[s_.2]? = some (.cells #[.int .i64 0, .slice none 0 0, .int .i64 0] 26 (0, 0))) ∧ (w.heap.size ≤ s_.2) ∧ (w.heap.size ≤ s_.2) ∧ (gb245 ≠ s_.2) ∧ (s_.2 ≠ gb245) ∧ (gb246 ≠ s_.2) ∧ (s_.2 ≠ gb246) ∧ (Below w.heap.size w w')) ?_ ?_
rotate_left
·(
intro hJ6_11
refine join_ (σ := Value) 5 (bm 13 831) (fun s_ => [(20, s_)]) (fun s_ w' => (w'.cell? ⟨gb245, 0, none⟩ = some (.int .i64 a0_0) ∧ w'.cell? ⟨gb245, 1, none⟩ = some (.slice A0_1 l0_1.length c0_1) ∧ w'.cell? ⟨gb245, 2, none⟩ = some (.int .i64 a0_2)) ∧ (Kd.R Kd.string 9 w' w.heap.size (fun _ => True) s_ t248) ∧ (w'.heap[gb245]? = some (.cells #[.int .i64 a0_0, .slice A0_1 l0_1.length c0_1, .int .i64 a0_2] 26 (0, 0))) ∧ (w'.heap[gb246]? = some (.cells #[.int .i64 0, .slice none 0 0, .int .i64 0] 26 (0, 0))) ∧ (Below w.heap.size w w')) ?_ ?_
rotate_left
·(
intro hJ4
refine join_ (σ := Value) 5 (bm 13 879) (fun s_ => [(22, s_)]) (fun s_ w' => (w'.cell? ⟨gb245, 0, none⟩ = some (.int .i64 a0_0) ∧ w'.cell? ⟨gb245, 1, none⟩ = some (.slice A0_1 l0_1.length c0_1) ∧ w'.cell? ⟨gb245, 2, none⟩ = some (.int .i64 a0_2)) ∧ (Kd.R Kd.string 9 w' w.heap.size (fun _ => True) s_ y251) ∧ (w'.heap[gb245]? = some (.cells #[.int .i64 a0_0, .slice A0_1 l0_1.length c0_1, .int .i64 a0_2] 26 (0, 0))) ∧ (w'.heap[gb246]? = some (.cells #[.int .i64 0, .slice none 0 0, .int .i64 0] 26 (0, 0))) ∧ (Below w.heap.size w w')) ?_ ?_
rotate_left
·(
intro hJ6
refine join_ (σ := Nat) 5 (bm 13 2863) (fun s_ => [(6, .pointer (some ⟨s_, 0, none⟩))]) (fun s_ w' => (w'.cell? ⟨gb245, 0, none⟩ = some (.int .i64 a0_0) ∧ w'.cell? ⟨gb245, 1, none⟩ = some (.slice A0_1 l0_1.length c0_1) ∧ w'.cell? ⟨gb245, 2, none⟩ = some (.int .i64 a0_2)) ∧ (w'.heap[gb245]? = some (.cells #[.int .i64 a0_0, .slice A0_1 l0_1.length c0_1, .int .i64 a0_2] 26 (0, 0))) ∧ (w'.heap[gb246]? = some (.cells #[.int .i64 0, .slice none 0 0, .int .i64 0] 26 (0, 0))) ∧ (w'.heap[s_]? = some (.cells #[.int .i64 0, .slice none 0 0, .int .i64 0] 26 (0, 0))) ∧ (w.heap.size ≤ s_) ∧ (w.heap.size ≤ s_) ∧ (gb245 ≠ s_) ∧ (s_ ≠ gb245) ∧ (gb246 ≠ s_) ∧ (s_ ≠ gb246) ∧ (Below w.heap.size w w')) ?_ ?_
rotate_left
·(
intro hJ11
refine three_ (i := 4) (j := 6) (k := 11) (Ni := some 20) (Nj := some 22) (Nk := some 6) (bm 13 831) (bm 13 879) (bm 13 2863) rfl rfl rfl rfl rfl rfl (three_of HT_.out (by kernel_rfl)) (by decide) (by decide) (by decide) (fun K hK => ?_) (fun K hK => ?_) (fun K hK => ?_)
·(
skip
refine goes_ Try.func53 (by kernel_rfl) rfl #[.slice A0_1 l0_1.length c0_1] (by rfl) rfl rfl mt ?_
with_reducible refine (slices_Clone_string_string.calls _ _ l0_1 t248 _ ?side1 ?side2 A17.out).mono ?_
(case side1 => exact rc ((Kd.C_below HR0_1.out HB.out)))
(case side2 => exact HC0_1.out)
rintro e w92 ⟨v249, rfl, ho0, hb⟩
refine ⟨_, rfl, ?_⟩
have HO250 := am (Kd.R_lower ho0 (below_size (rb2 HB GE245 GE246)))
replace BK245 := am (blk_below (rk BK245) hb)
replace BK246 := am (blk_below (rk BK246) hb)
replace HB := am (below_step (rb2 HB GE245 GE246) hb)
(try clear hb)
(try clear ho0)
refine hK.out _ _ (bc3 BK245) (fun hHeld => ?_)
clear hK K
refine norm_ (a' := _) (show Act.put _ (some 20) _ = _ from na) ?_
exact norm_ nz (hJ4 (v249) _ ⟨hHeld, (rr HO250), (rk BK245), (rk BK246), (rb2 HB GE245 GE246)⟩)
)
·(
skip
refine Kd.R_lit_step Kd.string _ 9 ?hg (N := 22) ?hd (xs := ([a1] : List ByteArray)) (inner := [.string a1]) (ok := fun _ => True) (okp := fun _ => True) ?hr ?hp (fun _ hk => hk) trivial (Below.refl _ _) (Nat.le_refl _) (by simp) ?_; (case hd => rfl); (case hg => rfl); (case hr => first | (go_simp; done) | (go_simp; rfl)); (case hp => exact (Reps.one (show Kd.M Kd.string _ _ _ a1 [.string a1] from rfl) (Reps.none _ _)))
intro v252 w92 ho93 hb hg_ hnew_
clear hg_ hnew_
(first | rw [← Ny251.out] at ho93 | (simp only [Int.reduceToNat] at ho93; rw [← Ny251.out] at ho93))
have HO253 := am (Kd.R_lower ho93 (below_size (rb2 HB GE245 GE246)))
replace BK245 := am (blk_below (rk BK245) hb)
replace BK246 := am (blk_below (rk BK246) hb)
replace HB := am (below_step (rb2 HB GE245 GE246) hb)
clear hb ho93
refine hK.out _ _ (bc3 BK245) (fun hHeld => ?_)
clear hK K
refine norm_ (a' := _) (show Act.put _ (some 22) _ = _ from na) ?_
exact norm_ nz (hJ6 (v252) _ ⟨hHeld, (rr HO253), (rk BK245), (rk BK246), (rb2 HB GE245 GE246)⟩)
)
·(
skip
refine box_step ?hg (N := 6) ?hd (cs := #[.int .i64 0, .slice none 0 0, .int .i64 0]) (t := 26) ?hr ?_; (case hd => rfl); (case hg => rfl); (case hr => first | (go_simp; done) | (go_simp; rfl))
intro gb257 hg w92 hbox hb
have BK257 := am (hbox)
have GW257 := am (gw hg (rb2 HB GE245 GE246))
have GE257 := GW257
replace HB := am (below_step (rb2 HB GE245 GE246) hb)
have NB245_257 := am (nl hg (rk BK245))
have NB257_245 := am (ng hg (rk BK245))
replace BK245 := am (blk_below (rk BK245) hb)
have NB246_257 := am (nl hg (rk BK246))
have NB257_246 := am (ng hg (rk BK246))
replace BK246 := am (blk_below (rk BK246) hb)
clear hb hbox hg
refine hK.out _ _ (bc3 BK245) (fun hHeld => ?_)
clear hK K
refine norm_ (a' := _) (show Act.put _ (some 6) _ = _ from na) ?_
exact norm_ nz (hJ11 (gb257) _ ⟨hHeld, (rk BK245), (rk BK246), (rk BK257), GW257.out, GE257.out, NB245_257.out, NB257_245.out, NB246_257.out, NB257_246.out, (rb3 HB GE245 GE246 GE257)⟩)
)
)
·(
skip
rintro gb257 w93 ⟨hHeld, h0_, h1_, h2_, h3_, h4_, h5_, h6_, h7_, h8_, h9_⟩
(try dsimp only at hHeld h0_ h1_ h2_ h3_ h4_ h5_ h6_ h7_ h8_ h9_)
replace BK245 := am h0_; replace BK246 := am h1_; have BK257 := am h2_; have GW257 := am h3_; have GE257 := am h4_; have NB245_257 := am h5_; have NB257_245 := am h6_; have NB246_257 := am h7_; have NB257_246 := am h8_; replace HB := am h9_
clear h0_ h1_ h2_ h3_ h4_ h5_ h6_ h7_ h8_ h9_
refine norm_ (a' := _) nr ?_
refine two_ (i := 4) (j := 6) (Ni := some 20) (Nj := some 22) (bm 13 2879) (bm 13 2927) rfl rfl rfl rfl (two_of HT_.out (by kernel_rfl)) (by decide) (by decide) (fun K hK => ?_) (fun K hK => ?_)
·(
skip
refine goes_ Try.func53 (by kernel_rfl) rfl #[.slice A0_1 l0_1.length c0_1] (by rfl) rfl rfl mt ?_
with_reducible refine (slices_Clone_string_string.calls _ _ l0_1 t248 _ ?side1 ?side2 A17.out).mono ?_
(case side1 => exact rc ((Kd.C_below HR0_1.out HB.out)))
(case side2 => exact HC0_1.out)
rintro e w94 ⟨v249, rfl, ho0, hb⟩
refine ⟨_, rfl, ?_⟩
have HO250 := am (Kd.R_lower ho0 (below_size (rb3 HB GE245 GE246 GE257)))
replace BK245 := am (blk_below (rk BK245) hb)
replace BK246 := am (blk_below (rk BK246) hb)
replace BK257 := am (blk_below (rk BK257) hb)
replace HB := am (below_step (rb3 HB GE245 GE246 GE257) hb)
(try clear hb)
(try clear ho0)
refine hK.out _ _ (bc3 BK245) (fun hHeld => ?_)
clear hK K
refine norm_ (a' := _) (show Act.put _ (some 20) _ = _ from na) ?_
exact norm_ nz (hJ4_11 (v249, gb257) _ ⟨hHeld, (rr HO250), (rk BK245), (rk BK246), (rk BK257), GW257.out, GE257.out, NB245_257.out, NB257_245.out, NB246_257.out, NB257_246.out, (rb3 HB GE245 GE246 GE257)⟩)
)
·(
skip
refine Kd.R_lit_step Kd.string _ 9 ?hg (N := 22) ?hd (xs := ([a1] : List ByteArray)) (inner := [.string a1]) (ok := fun _ => True) (okp := fun _ => True) ?hr ?hp (fun _ hk => hk) trivial (Below.refl _ _) (Nat.le_refl _) (by simp) ?_; (case hd => rfl); (case hg => rfl); (case hr => first | (go_simp; done) | (go_simp; rfl)); (case hp => exact (Reps.one (show Kd.M Kd.string _ _ _ a1 [.string a1] from rfl) (Reps.none _ _)))
intro v252 w94 ho95 hb hg_ hnew_
clear hg_ hnew_
(first | rw [← Ny251.out] at ho95 | (simp only [Int.reduceToNat] at ho95; rw [← Ny251.out] at ho95))
have HO253 := am (Kd.R_lower ho95 (below_size (rb3 HB GE245 GE246 GE257)))
replace BK245 := am (blk_below (rk BK245) hb)
replace BK246 := am (blk_below (rk BK246) hb)
replace BK257 := am (blk_below (rk BK257) hb)
replace HB := am (below_step (rb3 HB GE245 GE246 GE257) hb)
clear hb ho95
refine hK.out _ _ (bc3 BK245) (fun hHeld => ?_)
clear hK K
refine norm_ (a' := _) (show Act.put _ (some 22) _ = _ from na) ?_
exact norm_ nz (hJ6_11 (v252, gb257) _ ⟨hHeld, (rr HO253), (rk BK245), (rk BK246), (rk BK257), GW257.out, GE257.out, NB245_257.out, NB257_245.out, NB246_257.out, NB257_246.out, (rb3 HB GE245 GE246 GE257)⟩)
)
)
)
·(
skip
rintro v252 w94 ⟨hHeld, h0_, h1_, h2_, h3_⟩
(try dsimp only at hHeld h0_ h1_ h2_ h3_)
have HO253 := am h0_; replace BK245 := am h1_; replace BK246 := am h2_; replace HB := am h3_
clear h0_ h1_ h2_ h3_
refine norm_ (a' := _) nr ?_
refine two_ (i := 4) (j := 11) (Ni := some 20) (Nj := some 6) (bm 13 895) (bm 13 2927) rfl rfl rfl rfl (two_of HT_.out (by kernel_rfl)) (by decide) (by decide) (fun K hK => ?_) (fun K hK => ?_)
·(
skip
refine goes_ Try.func53 (by kernel_rfl) rfl #[.slice A0_1 l0_1.length c0_1] (by rfl) rfl rfl mt ?_
with_reducible refine (slices_Clone_string_string.calls _ _ l0_1 t248 _ ?side1 ?side2 A17.out).mono ?_
(case side1 => exact rc ((Kd.C_below HR0_1.out HB.out)))
(case side2 => exact HC0_1.out)
rintro e w95 ⟨v249, rfl, ho0, hb⟩
refine ⟨_, rfl, ?_⟩
have HO250 := am (Kd.R_lower (Kd.R_new' ho0 (Kd.R_lt (rr HO253))) (below_size (rb2 HB GE245 GE246)))
replace HO253 := am (Kd.R_elder' (rr HO253) (Kd.R_base ho0) hb)
replace BK245 := am (blk_below (rk BK245) hb)
replace BK246 := am (blk_below (rk BK246) hb)
replace HB := am (below_step (rb2 HB GE245 GE246) hb)
(try clear hb)
(try clear ho0)
refine hK.out _ _ (bc3 BK245) (fun hHeld => ?_)
clear hK K
refine norm_ (a' := _) (show Act.put _ (some 20) _ = _ from na) ?_
exact norm_ nz (hJ4_6 (v249, v252) _ ⟨hHeld, (rrm HO250), (rrm HO253), (rk BK245), (rk BK246), (rb2 HB GE245 GE246)⟩)
)
·(
skip
refine box_step ?hg (N := 6) ?hd (cs := #[.int .i64 0, .slice none 0 0, .int .i64 0]) (t := 26) ?hr ?_; (case hd => rfl); (case hg => rfl); (case hr => first | (go_simp; done) | (go_simp; rfl))
intro gb257 hg w95 hbox hb
replace HO253 := am (Kd.R_below (rr HO253) hb)
have BK257 := am (hbox)
have GW257 := am (gw hg (rb2 HB GE245 GE246))
have GE257 := GW257
replace HB := am (below_step (rb2 HB GE245 GE246) hb)
have NB245_257 := am (nl hg (rk BK245))
have NB257_245 := am (ng hg (rk BK245))
replace BK245 := am (blk_below (rk BK245) hb)
have NB246_257 := am (nl hg (rk BK246))
have NB257_246 := am (ng hg (rk BK246))
replace BK246 := am (blk_below (rk BK246) hb)
clear hb hbox hg
refine hK.out _ _ (bc3 BK245) (fun hHeld => ?_)
clear hK K
refine norm_ (a' := _) (show Act.put _ (some 6) _ = _ from na) ?_
exact norm_ nz (hJ6_11 (v252, gb257) _ ⟨hHeld, (rr HO253), (rk BK245), (rk BK246), (rk BK257), GW257.out, GE257.out, NB245_257.out, NB257_245.out, NB246_257.out, NB257_246.out, (rb3 HB GE245 GE246 GE257)⟩)
)
)
)
·(
skip
rintro v249 w93 ⟨hHeld, h0_, h1_, h2_, h3_⟩
(try dsimp only at hHeld h0_ h1_ h2_ h3_)
have HO250 := am h0_; replace BK245 := am h1_; replace BK246 := am h2_; replace HB := am h3_
clear h0_ h1_ h2_ h3_
refine norm_ (a' := _) nr ?_
refine two_ (i := 6) (j := 11) (Ni := some 22) (Nj := some 6) (bm 13 895) (bm 13 2879) rfl rfl rfl rfl (two_of HT_.out (by kernel_rfl)) (by decide) (by decide) (fun K hK => ?_) (fun K hK => ?_)
·(
skip
refine Kd.R_lit_step Kd.string _ 9 ?hg (N := 22) ?hd (xs := ([a1] : List ByteArray)) (inner := [.string a1]) (ok := fun _ => True) (okp := fun _ => True) ?hr ?hp (fun _ hk => hk) trivial (Below.refl _ _) (Nat.le_refl _) (by simp) ?_; (case hd => rfl); (case hg => rfl); (case hr => first | (go_simp; done) | (go_simp; rfl)); (case hp => exact (Reps.one (show Kd.M Kd.string _ _ _ a1 [.string a1] from rfl) (Reps.none _ _)))
intro v252 w94 ho95 hb hg_ hnew_
clear hg_ hnew_
(first | rw [← Ny251.out] at ho95 | (simp only [Int.reduceToNat] at ho95; rw [← Ny251.out] at ho95))
have HO253 := am (Kd.R_lower (Kd.R_new' ho95 (Kd.R_lt (rr HO250))) (below_size (rb2 HB GE245 GE246)))
replace HO250 := am (Kd.R_elder' (rr HO250) (Kd.R_base ho95) hb)
replace BK245 := am (blk_below (rk BK245) hb)
replace BK246 := am (blk_below (rk BK246) hb)
replace HB := am (below_step (rb2 HB GE245 GE246) hb)
clear hb ho95
refine hK.out _ _ (bc3 BK245) (fun hHeld => ?_)
clear hK K
refine norm_ (a' := _) (show Act.put _ (some 22) _ = _ from na) ?_
exact norm_ nz (hJ4_6 (v249, v252) _ ⟨hHeld, (rrm HO250), (rrm HO253), (rk BK245), (rk BK246), (rb2 HB GE245 GE246)⟩)
)
·(
skip
refine box_step ?hg (N := 6) ?hd (cs := #[.int .i64 0, .slice none 0 0, .int .i64 0]) (t := 26) ?hr ?_; (case hd => rfl); (case hg => rfl); (case hr => first | (go_simp; done) | (go_simp; rfl))
intro gb257 hg w94 hbox hb
replace HO250 := am (Kd.R_below (rr HO250) hb)
have BK257 := am (hbox)
have GW257 := am (gw hg (rb2 HB GE245 GE246))
have GE257 := GW257
replace HB := am (below_step (rb2 HB GE245 GE246) hb)
have NB245_257 := am (nl hg (rk BK245))
have NB257_245 := am (ng hg (rk BK245))
replace BK245 := am (blk_below (rk BK245) hb)
have NB246_257 := am (nl hg (rk BK246))
have NB257_246 := am (ng hg (rk BK246))
replace BK246 := am (blk_below (rk BK246) hb)
clear hb hbox hg
refine hK.out _ _ (bc3 BK245) (fun hHeld => ?_)
clear hK K
refine norm_ (a' := _) (show Act.put _ (some 6) _ = _ from na) ?_
exact norm_ nz (hJ4_11 (v249, gb257) _ ⟨hHeld, (rr HO250), (rk BK245), (rk BK246), (rk BK257), GW257.out, GE257.out, NB245_257.out, NB257_245.out, NB246_257.out, NB257_246.out, (rb3 HB GE245 GE246 GE257)⟩)
)
)
)
·(
skip
rintro ⟨v252, gb257⟩ w95 ⟨hHeld, h0_, h1_, h2_, h3_, h4_, h5_, h6_, h7_, h8_, h9_, h10_⟩
(try dsimp only at hHeld h0_ h1_ h2_ h3_ h4_ h5_ h6_ h7_ h8_ h9_ h10_)
have HO253 := am h0_; replace BK245 := am h1_; replace BK246 := am h2_; have BK257 := am h3_; have GW257 := am h4_; have GE257 := am h5_; have NB245_257 := am h6_; have NB257_245 := am h7_; have NB246_257 := am h8_; have NB257_246 := am h9_; replace HB := am h10_
clear h0_ h1_ h2_ h3_ h4_ h5_ h6_ h7_ h8_ h9_ h10_
refine norm_ (a' := _) nr ?_
refine one_ (i := 4) (N := some 20) (bm 13 2943) rfl rfl (one_of HT_.out (by kernel_rfl)) (by decide) (fun K hK => ?_)
refine goes_ Try.func53 (by kernel_rfl) rfl #[.slice A0_1 l0_1.length c0_1] (by rfl) rfl rfl mt ?_
with_reducible refine (slices_Clone_string_string.calls _ _ l0_1 t248 _ ?side1 ?side2 A17.out).mono ?_
(case side1 => exact rc ((Kd.C_below HR0_1.out HB.out)))
(case side2 => exact HC0_1.out)
rintro e w96 ⟨v249, rfl, ho0, hb⟩
refine ⟨_, rfl, ?_⟩
have HO250 := am (Kd.R_lower (Kd.R_new' ho0 (Kd.R_lt (rr HO253))) (below_size (rb3 HB GE245 GE246 GE257)))
replace HO253 := am (Kd.R_elder' (rr HO253) (Kd.R_base ho0) hb)
replace BK245 := am (blk_below (rk BK245) hb)
replace BK246 := am (blk_below (rk BK246) hb)
replace BK257 := am (blk_below (rk BK257) hb)
replace HB := am (below_step (rb3 HB GE245 GE246 GE257) hb)
(try clear hb)
(try clear ho0)
refine hK.out _ _ (bc3 BK245) (fun hHeld => ?_)
clear hK K
refine norm_ (a' := _) (show Act.put _ (some 20) _ = _ from na) ?_
exact norm_ nz (hJ4_6_11 (v249, v252, gb257) _ ⟨hHeld, (rrm HO250), (rrm HO253), (rk BK245), (rk BK246), (rk BK257), GW257.out, GE257.out, NB245_257.out, NB257_245.out, NB246_257.out, NB257_246.out, (rb3 HB GE245 GE246 GE257)⟩)
)
)
·(
skip
rintro ⟨v249, gb257⟩ w94 ⟨hHeld, h0_, h1_, h2_, h3_, h4_, h5_, h6_, h7_, h8_, h9_, h10_⟩
(try dsimp only at hHeld h0_ h1_ h2_ h3_ h4_ h5_ h6_ h7_ h8_ h9_ h10_)
have HO250 := am h0_; replace BK245 := am h1_; replace BK246 := am h2_; have BK257 := am h3_; have GW257 := am h4_; have GE257 := am h5_; have NB245_257 := am h6_; have NB257_245 := am h7_; have NB246_257 := am h8_; have NB257_246 := am h9_; replace HB := am h10_
clear h0_ h1_ h2_ h3_ h4_ h5_ h6_ h7_ h8_ h9_ h10_
refine norm_ (a' := _) nr ?_
refine one_ (i := 6) (N := some 22) (bm 13 2943) rfl rfl (one_of HT_.out (by kernel_rfl)) (by decide) (fun K hK => ?_)
refine Kd.R_lit_step Kd.string _ 9 ?hg (N := 22) ?hd (xs := ([a1] : List ByteArray)) (inner := [.string a1]) (ok := fun _ => True) (okp := fun _ => True) ?hr ?hp (fun _ hk => hk) trivial (Below.refl _ _) (Nat.le_refl _) (by simp) ?_; (case hd => rfl); (case hg => rfl); (case hr => first | (go_simp; done) | (go_simp; rfl)); (case hp => exact (Reps.one (show Kd.M Kd.string _ _ _ a1 [.string a1] from rfl) (Reps.none _ _)))
intro v252 w95 ho96 hb hg_ hnew_
clear hg_ hnew_
(first | rw [← Ny251.out] at ho96 | (simp only [Int.reduceToNat] at ho96; rw [← Ny251.out] at ho96))
have HO253 := am (Kd.R_lower (Kd.R_new' ho96 (Kd.R_lt (rr HO250))) (below_size (rb3 HB GE245 GE246 GE257)))
replace HO250 := am (Kd.R_elder' (rr HO250) (Kd.R_base ho96) hb)
replace BK245 := am (blk_below (rk BK245) hb)
replace BK246 := am (blk_below (rk BK246) hb)
replace BK257 := am (blk_below (rk BK257) hb)
replace HB := am (below_step (rb3 HB GE245 GE246 GE257) hb)
clear hb ho96
refine hK.out _ _ (bc3 BK245) (fun hHeld => ?_)
clear hK K
refine norm_ (a' := _) (show Act.put _ (some 22) _ = _ from na) ?_
exact norm_ nz (hJ4_6_11 (v249, v252, gb257) _ ⟨hHeld, (rrm HO250), (rrm HO253), (rk BK245), (rk BK246), (rk BK257), GW257.out, GE257.out, NB245_257.out, NB257_245.out, NB246_257.out, NB257_246.out, (rb3 HB GE245 GE246 GE257)⟩)
)
)
·(
skip
rintro ⟨v249, v252⟩ w95 ⟨hHeld, h0_, h1_, h2_, h3_, h4_⟩
(try dsimp only at hHeld h0_ h1_ h2_ h3_ h4_)
have HO250 := am h0_; have HO253 := am h1_; replace BK245 := am h2_; replace BK246 := am h3_; replace HB := am h4_
clear h0_ h1_ h2_ h3_ h4_
obtain ⟨Ao97, co97, eo97⟩ := Kd.R_slice HO253.out
(first | subst eo97 | (injection eo97 with f1_ f2_ f3_; have f4_ := f1_.symm; have f5_ := f3_.symm; clear f1_ f2_ f3_; subst f4_; subst f5_))
refine norm_ (a' := _) nr ?_
refine two_ (i := 7) (j := 11) (Ni := some 23) (Nj := some 6) (bm 13 1023) (bm 13 2943) rfl rfl rfl rfl (two_of HT_.out (by kernel_rfl)) (by decide) (by decide) (fun K hK => ?_) (fun K hK => ?_)
·(
skip
refine Kd.R_append_rows_step Kd.string (w0 := w) w.heap.size (by rfl) (.tmp 20) (.tmp 22) 24 9 (.string ⟨#[]⟩) 16 rfl Try.underlying24 info9 rfl (by decide) (by omega) v249 t248 y251 _ _ _ (fun k_ => some k_ ≠ (.slice Ao97 y251.length co97 : Value).ownBlock) (fun _ => False) rfl rfl ?aO ?aR (fun _ _ h => h) (fun _ h => h.elim) ?aF ?aB ?aS ?aL ?_
(case aR => repeat (first | exact (Kd.R_reads' HO253.out).2.2 | (with_reducible refine Kd.C_alloc ?_ _) | (with_reducible refine Kd.C_drewN ?_ _) | (with_reducible refine Kd.C_drew ?_)))
(case aB => exact (rb2 HB GE245 GE246))
(case aF => exact (fun k_ hk => Kd.fresh' (Kd.R_lt (rr HO253)) k_ hk))
(case aO => exact (rr HO250))
(case aS => exact (below_size (rb2 HB GE245 GE246)))
(case aL => have := LMc18.out; omega)
intro v255 w96 ho hb hg hat
rw [← Ny254.out] at ho
replace BK245 := am (blk_grown (rk BK245) hg (Kd.R_ne HO250.out BK245.out (by decide)))
replace BK246 := am (blk_grown (rk BK246) hg (Kd.R_ne HO250.out BK246.out (by decide)))
replace HO253 := am (Kd.R_after (ok := (fun _ => True)) (by (with_reducible repeat (first | apply r1 | apply r2 | apply r3)); exact Kd.R_mono HO253.out (fun _ hk => ⟨trivial, hk⟩)) hg hat)
replace HB := am (hb)
have HO256 := am (ho)
clear HO250
clear ho hb hg hat
obtain ⟨Ao98, co98, eo98⟩ := Kd.R_slice HO256.out
(first | subst eo98 | (injection eo98 with f1_ f2_ f3_; have f4_ := f1_.symm; have f5_ := f3_.symm; clear f1_ f2_ f3_; subst f4_; subst f5_))
refine hK.out _ _ (bc3 BK245) (fun hHeld => ?_)
clear hK K
refine norm_ (a' := _) (show Act.put _ (some 23) _ = _ from na) ?_
refine pu_ 10 26 (bm 13 2047) HT_.out ?_
exact norm_ nz (hJ4_6_7 (v249, .slice Ao97 y251.length co97, .slice Ao98 y254.length co98) _ ⟨hHeld, (rrm HO253), (rr HO256), (rk BK245), (rk BK246), (rb2 HB GE245 GE246)⟩)
)
·(
skip
refine box_step ?hg (N := 6) ?hd (cs := #[.int .i64 0, .slice none 0 0, .int .i64 0]) (t := 26) ?hr ?_; (case hd => rfl); (case hg => rfl); (case hr => first | (go_simp; done) | (go_simp; rfl))
intro gb257 hg w96 hbox hb
replace HO250 := am (Kd.R_below (rr HO250) hb)
replace HO253 := am (Kd.R_below (rr HO253) hb)
have BK257 := am (hbox)
have GW257 := am (gw hg (rb2 HB GE245 GE246))
have GE257 := GW257
replace HB := am (below_step (rb2 HB GE245 GE246) hb)
have NB245_257 := am (nl hg (rk BK245))
have NB257_245 := am (ng hg (rk BK245))
replace BK245 := am (blk_below (rk BK245) hb)
have NB246_257 := am (nl hg (rk BK246))
have NB257_246 := am (ng hg (rk BK246))
replace BK246 := am (blk_below (rk BK246) hb)
clear hb hbox hg
refine hK.out _ _ (bc3 BK245) (fun hHeld => ?_)
clear hK K
refine norm_ (a' := _) (show Act.put _ (some 6) _ = _ from na) ?_
exact norm_ nz (hJ4_6_11 (v249, .slice Ao97 y251.length co97, gb257) _ ⟨hHeld, (rr HO250), (rr HO253), (rk BK245), (rk BK246), (rk BK257), GW257.out, GE257.out, NB245_257.out, NB257_245.out, NB246_257.out, NB257_246.out, (rb3 HB GE245 GE246 GE257)⟩)
)
)
)
·(
skip
rintro ⟨v249, v252, gb257⟩ w96 ⟨hHeld, h0_, h1_, h2_, h3_, h4_, h5_, h6_, h7_, h8_, h9_, h10_, h11_⟩
(try dsimp only at hHeld h0_ h1_ h2_ h3_ h4_ h5_ h6_ h7_ h8_ h9_ h10_ h11_)
have HO250 := am h0_; have HO253 := am h1_; replace BK245 := am h2_; replace BK246 := am h3_; have BK257 := am h4_; have GW257 := am h5_; have GE257 := am h6_; have NB245_257 := am h7_; have NB257_245 := am h8_; have NB246_257 := am h9_; have NB257_246 := am h10_; replace HB := am h11_
clear h0_ h1_ h2_ h3_ h4_ h5_ h6_ h7_ h8_ h9_ h10_ h11_
obtain ⟨Ao98, co98, eo98⟩ := Kd.R_slice HO253.out
(first | subst eo98 | (injection eo98 with f1_ f2_ f3_; have f4_ := f1_.symm; have f5_ := f3_.symm; clear f1_ f2_ f3_; subst f4_; subst f5_))
refine norm_ (a' := _) nr ?_
refine one_ (i := 7) (N := some 23) (bm 13 3071) rfl rfl (one_of HT_.out (by kernel_rfl)) (by decide) (fun K hK => ?_)
refine Kd.R_append_rows_step Kd.string (w0 := w) w.heap.size (by rfl) (.tmp 20) (.tmp 22) 24 9 (.string ⟨#[]⟩) 16 rfl Try.underlying24 info9 rfl (by decide) (by omega) v249 t248 y251 _ _ _ (fun k_ => some k_ ≠ (.slice Ao98 y251.length co98 : Value).ownBlock) (fun _ => False) rfl rfl ?aO ?aR (fun _ _ h => h) (fun _ h => h.elim) ?aF ?aB ?aS ?aL ?_
(case aR => repeat (first | exact (Kd.R_reads' HO253.out).2.2 | (with_reducible refine Kd.C_alloc ?_ _) | (with_reducible refine Kd.C_drewN ?_ _) | (with_reducible refine Kd.C_drew ?_)))
(case aB => exact (rb3 HB GE245 GE246 GE257))
(case aF => exact (fun k_ hk => Kd.fresh' (Kd.R_lt (rr HO253)) k_ hk))
(case aO => exact (rr HO250))
(case aS => exact (below_size (rb3 HB GE245 GE246 GE257)))
(case aL => have := LMc18.out; omega)
intro v255 w97 ho hb hg hat
rw [← Ny254.out] at ho
replace BK245 := am (blk_grown (rk BK245) hg (Kd.R_ne HO250.out BK245.out (by decide)))
replace BK246 := am (blk_grown (rk BK246) hg (Kd.R_ne HO250.out BK246.out (by decide)))
replace HO253 := am (Kd.R_after (ok := (fun _ => True)) (by (with_reducible repeat (first | apply r1 | apply r2 | apply r3)); exact Kd.R_mono HO253.out (fun _ hk => ⟨trivial, hk⟩)) hg hat)
replace BK257 := am (blk_grown (rk BK257) hg (Kd.R_ne HO250.out BK257.out (by decide)))
replace HB := am (hb)
have HO256 := am (ho)
clear HO250
clear ho hb hg hat
obtain ⟨Ao99, co99, eo99⟩ := Kd.R_slice HO256.out
(first | subst eo99 | (injection eo99 with f1_ f2_ f3_; have f4_ := f1_.symm; have f5_ := f3_.symm; clear f1_ f2_ f3_; subst f4_; subst f5_))
refine hK.out _ _ (bc3 BK245) (fun hHeld => ?_)
clear hK K
refine norm_ (a' := _) (show Act.put _ (some 23) _ = _ from na) ?_
refine pu_ 10 26 (bm 13 4095) HT_.out ?_
exact norm_ nz (hJ4_6_7_11 (v249, .slice Ao98 y251.length co98, .slice Ao99 y254.length co99, gb257) _ ⟨hHeld, (rrm HO253), (rr HO256), (rk BK245), (rk BK246), (rk BK257), GW257.out, GE257.out, NB245_257.out, NB257_245.out, NB246_257.out, NB257_246.out, (rb3 HB GE245 GE246 GE257)⟩)
)
)
·(
skip
rintro ⟨v249, v252, v255⟩ w98 ⟨hHeld, h0_, h1_, h2_, h3_, h4_⟩
(try dsimp only at hHeld h0_ h1_ h2_ h3_ h4_)
have HO253 := am h0_; have HO256 := am h1_; replace BK245 := am h2_; replace BK246 := am h3_; replace HB := am h4_
clear h0_ h1_ h2_ h3_ h4_
obtain ⟨Ao99, co99, eo99⟩ := Kd.R_slice HO256.out
(first | subst eo99 | (injection eo99 with f1_ f2_ f3_; have f4_ := f1_.symm; have f5_ := f3_.symm; clear f1_ f2_ f3_; subst f4_; subst f5_))
refine norm_ (a' := _) nr ?_
refine one_ (i := 11) (N := some 6) (bm 13 4095) rfl rfl (one_of HT_.out (by kernel_rfl)) (by decide) (fun K hK => ?_)
refine box_step ?hg (N := 6) ?hd (cs := #[.int .i64 0, .slice none 0 0, .int .i64 0]) (t := 26) ?hr ?_; (case hd => rfl); (case hg => rfl); (case hr => first | (go_simp; done) | (go_simp; rfl))
intro gb257 hg w100 hbox hb
replace HO253 := am (Kd.R_below (rr HO253) hb)
replace HO256 := am (Kd.R_below (rr HO256) hb)
have BK257 := am (hbox)
have GW257 := am (gw hg (rb2 HB GE245 GE246))
have GE257 := GW257
replace HB := am (below_step (rb2 HB GE245 GE246) hb)
have NB245_257 := am (nl hg (rk BK245))
have NB257_245 := am (ng hg (rk BK245))
replace BK245 := am (blk_below (rk BK245) hb)
have NB246_257 := am (nl hg (rk BK246))
have NB257_246 := am (ng hg (rk BK246))
replace BK246 := am (blk_below (rk BK246) hb)
clear hb hbox hg
refine hK.out _ _ (bc3 BK245) (fun hHeld => ?_)
clear hK K
refine norm_ (a' := _) (show Act.put _ (some 6) _ = _ from na) ?_
exact norm_ nz (hJ4_6_7_11 (v249, v252, .slice Ao99 y254.length co99, gb257) _ ⟨hHeld, (rr HO253), (rr HO256), (rk BK245), (rk BK246), (rk BK257), GW257.out, GE257.out, NB245_257.out, NB257_245.out, NB246_257.out, NB257_246.out, (rb3 HB GE245 GE246 GE257)⟩)
)
)
rintro ⟨v249, v252, v255, gb257⟩ w99 ⟨hHeld, h0_, h1_, h2_, h3_, h4_, h5_, h6_, h7_, h8_, h9_, h10_, h11_⟩
(try dsimp only at hHeld h0_ h1_ h2_ h3_ h4_ h5_ h6_ h7_ h8_ h9_ h10_ h11_)
have HO253 := am h0_; have HO256 := am h1_; replace BK245 := am h2_; replace BK246 := am h3_; have BK257 := am h4_; have GW257 := am h5_; have GE257 := am h6_; have NB245_257 := am h7_; have NB257_245 := am h8_; have NB246_257 := am h9_; have NB257_246 := am h10_; replace HB := am h11_
clear h0_ h1_ h2_ h3_ h4_ h5_ h6_ h7_ h8_ h9_ h10_ h11_
obtain ⟨Ao100, co100, eo100⟩ := Kd.R_slice HO256.out
(first | subst eo100 | (injection eo100 with f1_ f2_ f3_; have f4_ := f1_.symm; have f5_ := f3_.symm; clear f1_ f2_ f3_; subst f4_; subst f5_))
refine norm_ (a' := _) nr ?_
refine one_ (i := 12) (N := none) (bm 13 8191) rfl rfl (one_of HT_.out (by kernel_rfl)) (by decide) (fun K hK => ?_)
have hs101 : w99.cell? ⟨gb257, 0, none⟩ = some (.int .i64 0) := (blk_cell BK257.out 0).trans rfl
have hfs101 := blk_frozen BK257.out 0
have hns101_0 := NB245_257.out
have hns101_1 := NB246_257.out
have hms101_0 := NB257_245.out
have hms101_1 := NB257_246.out
have hs102 : w99.cell? ⟨gb257, 1, none⟩ = some (.slice none 0 0) := (blk_cell BK257.out 1).trans rfl
have hfs102 := blk_frozen BK257.out 1
have hns102_0 := NB245_257.out
have hns102_1 := NB246_257.out
have hms102_0 := NB257_245.out
have hms102_1 := NB257_246.out
have hs103 : w99.cell? ⟨gb257, 2, none⟩ = some (.int .i64 0) := (blk_cell BK257.out 2).trans rfl
have hfs103 := blk_frozen BK257.out 2
have hns103_0 := NB245_257.out
have hns103_1 := NB246_257.out
have hms103_0 := NB257_245.out
have hms103_1 := NB257_246.out
refine skip_ (w1 := ?_) (by rfl) rfl ?_ ?_
rotate_left
·(
go_simp
rfl
)
refine hK.out _ _ ⟨((cell_far (p := ⟨gb257, _, none⟩) NB245_257.out _).trans (((cell_far (p := ⟨gb257, _, none⟩) NB245_257.out _).trans (((cell_far (p := ⟨gb257, _, none⟩) NB245_257.out _).trans (hHeld.1)))))), ((cell_far (p := ⟨gb257, _, none⟩) NB245_257.out _).trans (((cell_far (p := ⟨gb257, _, none⟩) NB245_257.out _).trans (((cell_far (p := ⟨gb257, _, none⟩) NB245_257.out _).trans (hHeld.2.1)))))), ((cell_far (p := ⟨gb257, _, none⟩) NB245_257.out _).trans (((cell_far (p := ⟨gb257, _, none⟩) NB245_257.out _).trans (((cell_far (p := ⟨gb257, _, none⟩) NB245_257.out _).trans (hHeld.2.2))))))⟩ (fun hHeld => ?_)
clear hK K
refine done_ (done_of HT_.out (by kernel_rfl)) ?_
have hnb104 := NB257_245.out
have hnc104 := NB245_257.out
have hnb105 := NB257_246.out
have hnc105 := NB246_257.out
have hcz106_0 : w99.cell? ⟨gb257, 0, none⟩ = some (.int .i64 0) := (blk_cell BK257.out 0).trans rfl
have hcz106_1 : w99.cell? ⟨gb257, 1, none⟩ = some (.slice none 0 0) := (blk_cell BK257.out 1).trans rfl
have hcz106_2 : w99.cell? ⟨gb257, 2, none⟩ = some (.int .i64 0) := (blk_cell BK257.out 2).trans rfl
have hfz106_0 := blk_frozen BK257.out 0
have hfz106_1 := blk_frozen BK257.out 1
have hfz106_2 := blk_frozen BK257.out 2
have hnb107 := NB245_246.out
have hnc107 := NB246_245.out
have hcz108_0 : w99.cell? ⟨gb245, 0, none⟩ = some (.int .i64 a0_0) := (blk_cell BK245.out 0).trans rfl
have hcz108_1 : w99.cell? ⟨gb245, 1, none⟩ = some (.slice A0_1 l0_1.length c0_1) := (blk_cell BK245.out 1).trans rfl
have hcz108_2 : w99.cell? ⟨gb245, 2, none⟩ = some (.int .i64 a0_2) := (blk_cell BK245.out 2).trans rfl
have hfz108_0 := blk_frozen BK245.out 0
have hfz108_1 := blk_frozen BK245.out 1
have hfz108_2 := blk_frozen BK245.out 2
have hcz109_0 : w99.cell? ⟨gb246, 0, none⟩ = some (.int .i64 0) := (blk_cell BK246.out 0).trans rfl
have hcz109_1 : w99.cell? ⟨gb246, 1, none⟩ = some (.slice none 0 0) := (blk_cell BK246.out 1).trans rfl
have hcz109_2 : w99.cell? ⟨gb246, 2, none⟩ = some (.int .i64 0) := (blk_cell BK246.out 2).trans rfl
have hfz109_0 := blk_frozen BK246.out 0
have hfz109_1 := blk_frozen BK246.out 1
have hfz109_2 := blk_frozen BK246.out 2
try go_wp2
refine bodyPost_ret (results_ct rfl _ _ gb246 26 #[.int .i64 a0_0, .slice Ao100 y254.length co100, .int .i64 a0_2] (0, 0) _ rfl (by (with_reducible repeat (first | apply k1 | apply k2 | apply k3)); refine blk_put (cs := #[.int .i64 a0_0, .slice Ao100 y254.length co100, .int .i64 0]) ?_ 2 _ rfl; (with_reducible repeat (first | apply k1 | apply k2 | apply k3)); refine blk_put (cs := #[.int .i64 a0_0, .slice none 0 0, .int .i64 0]) ?_ 1 _ rfl; (with_reducible repeat (first | apply k1 | apply k2 | apply k3)); refine blk_put (cs := #[.int .i64 0, .slice none 0 0, .int .i64 0]) ?_ 0 _ rfl; (with_reducible repeat (first | apply k1 | apply k2 | apply k3)); refine blk_far ?_ NB246_257.out _; (with_reducible repeat (first | apply k1 | apply k2 | apply k3)); refine blk_far ?_ NB246_257.out _; (with_reducible repeat (first | apply k1 | apply k2 | apply k3)); refine blk_far ?_ NB246_257.out _; (with_reducible repeat (first | apply k1 | apply k2 | apply k3)); exact BK246.out) Try.underlying26 rfl (by kernel_rfl)) rfl ?_
exact ⟨_, by first | rfl | (simp [errW_none, errW_some] <;> rfl) | (simp [*, errW_none, errW_some] <;> rfl), by (with_reducible repeat (first | apply r1 | apply r2 | apply r3)); exact Kd.R_mono (Kd.R_far (p := ⟨gb246, 2, none⟩) (Kd.R_far (p := ⟨gb246, 1, none⟩) (Kd.R_far (p := ⟨gb246, 0, none⟩) (Kd.R_far (p := ⟨gb257, 2, none⟩) (Kd.R_far (p := ⟨gb257, 1, none⟩) (Kd.R_far (p := ⟨gb257, 0, none⟩) (Kd.R_types (Kd.R_types HO256.out BK257.out (by decide)) BK246.out (by decide)) (fun _ hk => hk.1.2) (.int .i64 a0_0)) (fun _ hk => hk.1.2) (.slice Ao100 y254.length co100)) (fun _ hk => hk.1.2) (.int .i64 a0_2)) (fun _ hk => hk.2) (.int .i64 a0_0)) (fun _ hk => hk.2) (.slice Ao100 y254.length co100)) (fun _ hk => hk.2) (.int .i64 a0_2)) (fun _ hk => trivial), rb3 HB GE245 GE246 GE257⟩
)
)
)
·(
rw [if_neg c18] at H
exact absurd H (by simp)
)
)
)
)
)

end Go.Proofs.Ytalopdcephohgaa.RA
