/- Contracts of Go functions that laws of this seat reach: each Lean function answers as its Go function does. No condition. Written by wip/tools/inj.py, over the kit's print. -/
import Derived.Test.YtalopdcephohgaaRAx0
import Derived.Test.YtalopdcephohgaaRAx2
namespace Go.Proofs.Ytalopdcephohgaa.RA
open Go.RowKit Go.Proofs.YtalopdcephohgaaW.PrintWords Go.Proofs.YtalopdcephohgaaW.PrintLast Go.Proofs.YtalopdcephohgaaW.PrintMore
attribute [local go_sem] max2_int min2_int max_two min_two max_three min_three max_four min_four   -- for this text's walks alone
set_option linter.unusedVariables false
set_option linter.unusedSimpArgs false

/-! ### spec_Keep: function 17 -/
def spec_Keep.j0 : Nat → ByteArray → Bool → Int → List ByteArray → Int → Option (Int × List ByteArray × Int × Bool)
 | 0, _, _, _, _, _ => none
 | k + 1, x1, x14, x108000, x108001, x108002 => if x14 = true then (some (0, ([] : List ByteArray), 0, false)) else ((some (([] : List ByteArray) : List ByteArray)).bind fun y110 => (if y110.length + x108001.length < 8796093022208 then ((some (y110 ++ x108001 : List ByteArray)).bind fun y113 => ((some (([x1] : List ByteArray) : List ByteArray)).bind fun y116 => (if y113.length + y116.length < 8796093022208 then ((some (y113 ++ y116 : List ByteArray)).bind fun y119 => (if (y119.length : Int) > x108000 then (if 1 ≤ (y119.length : Int) then (if (wrap64 (x108002 + 1)) > 1000000 then (some (0, ([] : List ByteArray), 0, false)) else (some (x108000, (y119.drop (1 : Int).toNat), wrap64 (x108002 + 1), true))) else (none)) else (if x108002 > 1000000 then (some (0, ([] : List ByteArray), 0, false)) else (some (x108000, y119, x108002, true))))) else (none)))) else (none)))
def spec_Keep.f (k : Nat) (a0_0 : Int) (l0_1 : List ByteArray) (a0_2 : Int) (a1 : ByteArray) : Option (Int × List ByteArray × Int × Bool) := (spec_HistoryOk.f k a0_0 l0_1 a0_2).bind fun t109 => (if t109 = true then (spec_Keep.j0 k a1 (decide ((a1.size : Int) > 300)) a0_0 l0_1 a0_2) else (spec_Keep.j0 k a1 true a0_0 l0_1 a0_2))
theorem spec_Keep.mono_l : ∀ k, (∀ y0 y1 y2 y3 y4, LeO (spec_Keep.j0 k y0 y1 y2 y3 y4) (spec_Keep.j0 (k + 1) y0 y1 y2 y3 y4))
 | 0 => fun _ _ _ _ _ r h => by simp [spec_Keep.j0] at h
 | k + 1 => by
  have ih0 := spec_Keep.mono_l k
  ·intro y0 y1 y2 y3 y4
   unfold spec_Keep.j0
   repeat' first
   | (with_reducible exact ih0 _ _ _ _ _)
   | (with_reducible exact spec_HistoryOk.mono _ _ _ _)
   | (with_reducible exact LeO.refl _)
   | (with_reducible exact LeO.none _)
   | (with_reducible refine LeO.ite ?_ ?_)
   | (with_reducible refine LeO.bind ?_ (fun _ => ?_))
theorem spec_Keep.mono : ∀ a0 a1 a2 a3 k, LeO (spec_Keep.f k a0 a1 a2 a3) (spec_Keep.f (k + 1) a0 a1 a2 a3) := by
 intro a0 a1 a2 a3 k
 have ih0 := spec_Keep.mono_l k
 unfold spec_Keep.f
 repeat' first
   | (with_reducible exact ih0 _ _ _ _ _)
   | (with_reducible exact spec_HistoryOk.mono _ _ _ _)
   | (with_reducible exact LeO.refl _)
   | (with_reducible exact LeO.none _)
   | (with_reducible refine LeO.ite ?_ ?_)
   | (with_reducible refine LeO.bind ?_ (fun _ => ?_))
def spec_Keep.T3 : Bool × List (List Nat × List Nat) := (true, [([], []), ([0], [0]), ([], []), ([], []), ([3], [3]), ([2, 4], [2, 4]), ([], []), ([6], [6]), ([5, 7, 5], [5, 7]), ([], []), ([9], [9]), ([1, 8, 10], [1, 8, 10]), ([], []), ([12, 11, 8, 0, 1, 2, 3, 4, 5, 6, 7, 8, 9, 10, 11, 12], [11, 12])])
def spec_Keep.B3 : List Nat := [0, 1, 0, 0, 8, 28, 0, 64, 252, 0, 512, 2047, 0, 8191]
theorem spec_Keep.tab3 : rtab .any (opsOf Try.f17 3) = spec_Keep.T3 := by kernel_rfl
theorem spec_Keep.bits3 : waitsOk spec_Keep.T3.2 spec_Keep.B3 = true := by kernel_rfl
set_option maxHeartbeats 8000000 in
set_option maxRecDepth 100000 in
theorem spec_Keep.calls (k : Nat) (a0_0 : Int) (A0_1 : Option Addr) (c0_1 : Nat) (l0_1 : List ByteArray) (a0_2 : Int) (a1 : ByteArray) (r1 : Int) (r2 : List ByteArray) (r3 : Int) (r4 : Bool) (w : World) (hr0_1 : Kd.C Kd.string w A0_1 l0_1.length l0_1) (hc0_1 : l0_1.length ≤ c0_1) (h : spec_Keep.f k a0_0 l0_1 a0_2 a1 = some (r1, r2, r3, r4)) :
  Calls Try.prog 17 #[.agg #[.int .i64 a0_0, .slice A0_1 l0_1.length c0_1, .int .i64 a0_2], .string a1] w fun e w' => ∃ v1_ : Value, e = .returned (.tuple #[.agg #[.int .i64 r1, v1_, .int .i64 r3], .bool r4]) ∧ Kd.Q Kd.string 9 w' w.heap.size (fun _ => True) v1_ r2 ∧ Below w.heap.size w w' := by
 (
have hu26 := Try.underlying26
have HR0_1 := am hr0_1
have HC0_1 := am hc0_1
clear hr0_1 hc0_1
have HB := am (Below.refl w.heap.size w)
have H := h
unfold spec_Keep.f at H
clear h
have HC3 := am H
clear H
go_enter Try.func17, Try.ntmps17
go_upto_region 1 with (first | ((with_reducible refine gate_dst (N := 2) rfl ?_); (try (refine gate_guard (by rfl) ?_; dsimp only)); refine box_event ?hg (N := 2) ?hd (cs := #[.int .i64 a0_0, .slice A0_1 l0_1.length c0_1, .int .i64 a0_2]) (t := 26) ?hr ?_; (case hd => rfl); (case hg => rfl); (case hr => first | (go_simp; done) | (go_simp; rfl)); intro gb107 hg w4 hbox hb; have BK107 := am (hbox); have GW107 := am (gw hg (rb HB)); have GE107 := GW107; replace HB := am (below_step (rb HB) hb); clear hb hbox hg) | ((with_reducible refine gate_dst (N := 4) rfl ?_); (try (refine gate_guard (by rfl) ?_; dsimp only)); refine box_event ?hg (N := 4) ?hd (cs := #[.int .i64 0, .slice none 0 0, .int .i64 0]) (t := 26) ?hr ?_; (case hd => rfl); (case hg => rfl); (case hr => first | (go_simp; done) | (go_simp; rfl)); intro gb108 hg w5 hbox hb; have BK108 := am (hbox); have GW108 := am (gw hg (rb1 HB GE107)); have GE108 := GW108; replace HB := am (below_step (rb1 HB GE107) hb); have NB107_108 := am (nl hg (rk BK107)); have NB108_107 := am (ng hg (rk BK107)); replace BK107 := am (blk_below (rk BK107) hb); clear hb hbox hg))
(try simp only [Act.put, List.setIfInBounds_toArray, List.set_cons_zero, List.set_cons_succ])
go_cut [14] (fun v14 wc => ∃ (kq : Nat) (x14_2 : Bool), v14 = .bool x14_2 ∧ Aside0 (spec_Keep.j0 kq a1 x14_2 a0_0 l0_1 a0_2 = some (r1, r2, r3, r4)) ∧ Aside0 (kq ≤ k) ∧ Aside0 (wc.heap[gb107]? = some (.cells #[.int .i64 a0_0, (.slice A0_1 l0_1.length c0_1), .int .i64 a0_2] 26 (0, 0))) ∧ Aside0 (wc.heap[gb108]? = some (.cells #[.int .i64 0, (.slice none 0 0), .int .i64 0] 26 (0, 0))) ∧ Aside0 (Below w.heap.size w wc))
case first => (
have H := HC3.out
clear HC3
replace H := Option.bind_eq_some_iff.mp H
obtain ⟨t109, A60, H⟩ := H
(try dsimp only at H)
have A6 := am A60
clear A60
by_cases c7 : t109 = true
·(
subst c7
rw [if_pos rfl] at H
have H' := am H
clear H
have hnb8 := NB107_108.out
have hnc8 := NB108_107.out
have hcz9_0 : w5.cell? ⟨gb107, 0, none⟩ = some (.int .i64 a0_0) := (blk_cell BK107.out 0).trans rfl
have hcz9_1 : w5.cell? ⟨gb107, 1, none⟩ = some (.slice A0_1 l0_1.length c0_1) := (blk_cell BK107.out 1).trans rfl
have hcz9_2 : w5.cell? ⟨gb107, 2, none⟩ = some (.int .i64 a0_2) := (blk_cell BK107.out 2).trans rfl
have hfz9_0 := blk_frozen BK107.out 0
have hfz9_1 := blk_frozen BK107.out 1
have hfz9_2 := blk_frozen BK107.out 2
go_wp2_with (first | ((with_reducible refine gate_callee (f := 20) rfl ?_); refine gl_ (some 8) Try.func20 #[.agg #[.int .i64 a0_0, .slice A0_1 l0_1.length c0_1, .int .i64 a0_2]] ?_; (with_reducible refine (spec_HistoryOk.calls k a0_0 _ _ l0_1 a0_2 true _ ?side1 ?side2 A6.out).mono ?_); (case side1 => exact rc ((Kd.C_below HR0_1.out HB.out))); (case side2 => exact HC0_1.out); rintro e w10 ⟨rfl, hb⟩; refine ⟨_, rfl, ?_⟩; replace BK107 := am (blk_below (rk BK107) hb); replace BK108 := am (blk_below (rk BK108) hb); replace HB := am (below_step (rb2 HB GE107 GE108) hb); (try clear hb); (try clear hb2); (try clear hk); (try clear hi)))
go_meet
case rel => exact ⟨_, (decide ((a1.size : Int) > 300)), (by first | rfl | (simp; done) | (simp [*]; done)), H', ⟨by first | omega | exact Nat.le_refl _⟩, ⟨rk BK107⟩, ⟨rk BK108⟩, ⟨rb2 HB GE107 GE108⟩⟩
)
·(
replace c7 := Bool.eq_false_iff.mpr c7
subst c7
rw [if_neg (show ¬ (false = true) by decide)] at H
have H' := am H
clear H
have hnb11 := NB107_108.out
have hnc11 := NB108_107.out
have hcz12_0 : w5.cell? ⟨gb107, 0, none⟩ = some (.int .i64 a0_0) := (blk_cell BK107.out 0).trans rfl
have hcz12_1 : w5.cell? ⟨gb107, 1, none⟩ = some (.slice A0_1 l0_1.length c0_1) := (blk_cell BK107.out 1).trans rfl
have hcz12_2 : w5.cell? ⟨gb107, 2, none⟩ = some (.int .i64 a0_2) := (blk_cell BK107.out 2).trans rfl
have hfz12_0 := blk_frozen BK107.out 0
have hfz12_1 := blk_frozen BK107.out 1
have hfz12_2 := blk_frozen BK107.out 2
go_wp2_with (first | ((with_reducible refine gate_callee (f := 20) rfl ?_); refine gl_ (some 8) Try.func20 #[.agg #[.int .i64 a0_0, .slice A0_1 l0_1.length c0_1, .int .i64 a0_2]] ?_; (with_reducible refine (spec_HistoryOk.calls k a0_0 _ _ l0_1 a0_2 false _ ?side1 ?side2 A6.out).mono ?_); (case side1 => exact rc ((Kd.C_below HR0_1.out HB.out))); (case side2 => exact HC0_1.out); rintro e w13 ⟨rfl, hb⟩; refine ⟨_, rfl, ?_⟩; replace BK107 := am (blk_below (rk BK107) hb); replace BK108 := am (blk_below (rk BK108) hb); replace HB := am (below_step (rb2 HB GE107 GE108) hb); (try clear hb); (try clear hb2); (try clear hk); (try clear hi)))
go_meet
case rel => exact ⟨_, (true), (by first | rfl | (simp; done) | (simp [*]; done)), H', ⟨by first | omega | exact Nat.le_refl _⟩, ⟨rk BK107⟩, ⟨rk BK108⟩, ⟨rb2 HB GE107 GE108⟩⟩
)
)
case rest => (
clear HC3
try clear c1
try clear c2
try clear p2
try clear c7
try clear c8
try clear c11
try clear hcz12_0
try clear hcz12_1
try clear hcz12_2
try clear hcz9_0
try clear hcz9_1
try clear hcz9_2
try clear hfz12_0
try clear hfz12_1
try clear hfz12_2
try clear hfz9_0
try clear hfz9_1
try clear hfz9_2
obtain ⟨kq, x14_2, rfl, HA, HJ2, BK107, BK108, HB⟩ := hcut
cases kq with
| zero => exact absurd HA.out (by simp [spec_Keep.j0])
| succ kj2 => (
have H := HA.out
clear HA
simp only [spec_Keep.j0] at H
by_cases c14 : x14_2 = true
·(
subst c14
have H1 : (some (0, ([] : List ByteArray), 0, false)) = some (r1, r2, r3, r4) := by rw [if_pos rfl] at H; exact H
clear H
have H := H1
clear H1
simp only [Option.some.injEq, Prod.mk.injEq] at H
obtain ⟨rfl, rfl, rfl, rfl⟩ := H
have hnb15 := NB108_107.out
have hnc15 := NB107_108.out
have hcz16_0 : wc.cell? ⟨gb108, 0, none⟩ = some (.int .i64 0) := (blk_cell BK108.out 0).trans rfl
have hcz16_1 : wc.cell? ⟨gb108, 1, none⟩ = some (.slice none 0 0) := (blk_cell BK108.out 1).trans rfl
have hcz16_2 : wc.cell? ⟨gb108, 2, none⟩ = some (.int .i64 0) := (blk_cell BK108.out 2).trans rfl
have hfz16_0 := blk_frozen BK108.out 0
have hfz16_1 := blk_frozen BK108.out 1
have hfz16_2 := blk_frozen BK108.out 2
go_wp2
refine bodyPost_ret (results_ct rfl _ _ gb108 26 #[.int .i64 0, .slice none 0 0, .int .i64 0] (0, 0) _ rfl (rp_0_1_2 BK108) Try.underlying26 rfl (by kernel_rfl)) rfl ?_
exact ⟨_, by first | rfl | (simp [errW_none, errW_some] <;> rfl) | (simp [*, errW_none, errW_some] <;> rfl), Kd.Q_of_R (by first | exact Kd.R_nil _ _ _ _ _ | exact Kd.N_nil _ _ _ _ _ | exact Kd.V_nil _ _ _ _ _ | exact Kd.Q_nil _ _ _ _ _ | exact Kd.S_nil _ _ _ _ _), rb2 HB GE107 GE108⟩
)
·(
replace c14 := Bool.eq_false_iff.mpr c14
subst c14
rw [if_neg (show ¬ (false = true) by decide)] at H
obtain ⟨y110, hy110⟩ : ∃ y_ : List ByteArray, y_ = (([] : List ByteArray)) := ⟨_, rfl⟩
replace H : (if y110.length + l0_1.length < 8796093022208 then ((some (y110 ++ l0_1 : List ByteArray)).bind fun y113 => ((some (([a1] : List ByteArray) : List ByteArray)).bind fun y116 => (if y113.length + y116.length < 8796093022208 then ((some (y113 ++ y116 : List ByteArray)).bind fun y119 => (if (y119.length : Int) > a0_0 then (if 1 ≤ (y119.length : Int) then (if (wrap64 (a0_2 + 1)) > 1000000 then (some (0, ([] : List ByteArray), 0, false)) else (some (a0_0, (y119.drop (1 : Int).toNat), wrap64 (a0_2 + 1), true))) else (none)) else (if a0_2 > 1000000 then (some (0, ([] : List ByteArray), 0, false)) else (some (a0_0, y119, a0_2, true))))) else (none)))) else (none)) = some (r1, r2, r3, r4) := by first | (rw [hy110]; with_reducible exact H) | (rw [hy110]; exact H) | exact H
have Ny110 := am hy110
clear hy110
by_cases c17 : y110.length + l0_1.length < 8796093022208
·(
rw [if_pos c17] at H
have LMc17 := am c17
clear c17
obtain ⟨y113, hy113⟩ : ∃ y_ : List ByteArray, y_ = (y110 ++ l0_1) := ⟨_, rfl⟩
replace H : ((some (([a1] : List ByteArray) : List ByteArray)).bind fun y116 => (if y113.length + y116.length < 8796093022208 then ((some (y113 ++ y116 : List ByteArray)).bind fun y119 => (if (y119.length : Int) > a0_0 then (if 1 ≤ (y119.length : Int) then (if (wrap64 (a0_2 + 1)) > 1000000 then (some (0, ([] : List ByteArray), 0, false)) else (some (a0_0, (y119.drop (1 : Int).toNat), wrap64 (a0_2 + 1), true))) else (none)) else (if a0_2 > 1000000 then (some (0, ([] : List ByteArray), 0, false)) else (some (a0_0, y119, a0_2, true))))) else (none))) = some (r1, r2, r3, r4) := by first | (rw [hy113]; with_reducible exact H) | (rw [hy113]; exact H) | exact H
have Ny113 := am hy113
clear hy113
obtain ⟨y116, hy116⟩ : ∃ y_ : List ByteArray, y_ = (([a1] : List ByteArray)) := ⟨_, rfl⟩
replace H : (if y113.length + y116.length < 8796093022208 then ((some (y113 ++ y116 : List ByteArray)).bind fun y119 => (if (y119.length : Int) > a0_0 then (if 1 ≤ (y119.length : Int) then (if (wrap64 (a0_2 + 1)) > 1000000 then (some (0, ([] : List ByteArray), 0, false)) else (some (a0_0, (y119.drop (1 : Int).toNat), wrap64 (a0_2 + 1), true))) else (none)) else (if a0_2 > 1000000 then (some (0, ([] : List ByteArray), 0, false)) else (some (a0_0, y119, a0_2, true))))) else (none)) = some (r1, r2, r3, r4) := by first | (rw [hy116]; with_reducible exact H) | (rw [hy116]; exact H) | exact H
have Ny116 := am hy116
clear hy116
by_cases c18 : y113.length + y116.length < 8796093022208
·(
rw [if_pos c18] at H
have LMc18 := am c18
clear c18
obtain ⟨y119, hy119⟩ : ∃ y_ : List ByteArray, y_ = (y113 ++ y116) := ⟨_, rfl⟩
replace H : (if (y119.length : Int) > a0_0 then (if 1 ≤ (y119.length : Int) then (if (wrap64 (a0_2 + 1)) > 1000000 then (some (0, ([] : List ByteArray), 0, false)) else (some (a0_0, (y119.drop (1 : Int).toNat), wrap64 (a0_2 + 1), true))) else (none)) else (if a0_2 > 1000000 then (some (0, ([] : List ByteArray), 0, false)) else (some (a0_0, y119, a0_2, true)))) = some (r1, r2, r3, r4) := by first | (rw [hy119]; with_reducible exact H) | (rw [hy119]; exact H) | exact H
have Ny119 := am hy119
clear hy119
by_cases c19 : (y119.length : Int) > a0_0
·(
rw [if_pos c19] at H
have c19b0 : decide (a0_0 < (y119.length : Int)) = true := decide_eq_true c19
clear c19
by_cases c20 : 1 ≤ (y119.length : Int)
·(
rw [if_pos c20] at H
have c20b0 := eq_true c20
have c20b1 : decide (1 ≤ (y119.length : Int)) = true := decide_eq_true c20
clear c20
obtain ⟨y123, hy123⟩ : ∃ y_ : List ByteArray, y_ = (y119.drop (1 : Int).toNat) := ⟨_, rfl⟩
replace H : (if (wrap64 (a0_2 + 1)) > 1000000 then (some (0, ([] : List ByteArray), 0, false)) else (some (a0_0, y123, wrap64 (a0_2 + 1), true))) = some (r1, r2, r3, r4) := by first | (rw [hy123]; with_reducible exact H) | (rw [hy123]; exact H) | exact H
have Ny123 := am hy123
clear hy123
by_cases c21 : (wrap64 (a0_2 + 1)) > 1000000
·(
rw [if_pos c21] at H
have c21b0 : decide (1000000 < (wrap64 (a0_2 + 1))) = true := decide_eq_true c21
clear c21
simp only [Option.some.injEq, Prod.mk.injEq] at H
obtain ⟨rfl, rfl, rfl, rfl⟩ := H
try go_wp2
replace BK107 := am (blk_drew BK107.out)
replace BK108 := am (blk_drew BK108.out)
replace HB := am (below_drew1 HB.out)
refine start_ (n := 14) (S := fun w' => w'.cell? ⟨gb107, 0, none⟩ = some (.int .i64 a0_0) ∧ w'.cell? ⟨gb107, 1, none⟩ = some (.slice A0_1 l0_1.length c0_1) ∧ w'.cell? ⟨gb107, 2, none⟩ = some (.int .i64 a0_2)) (ds := []) (bm 14 0) (by kernel_rfl) rfl rfl (bc3 BK107) (fun hHeld => ?_); refine with_tabW spec_Keep.tab3 spec_Keep.bits3 (fun HT_ HW_ => ?_)
generalize wc.drew = w22 at BK107 BK108 HB hHeld ⊢
refine pu_ 0 16 (bm 14 1) HT_.out ?_
refine pu_ 3 19 (bm 14 9) HT_.out ?_
refine pu_ 6 22 (bm 14 73) HT_.out ?_
refine pu_ 9 25 (bm 14 585) HT_.out ?_
refine take_ (i := 1) (N := some 17) (v := ?_) (a' := ?_) (bm 14 587) rfl rfl (take_ofW HT_.out HW_.out (by kernel_rfl)) (fun _ _ _ h => h) (Or.inl ⟨by rfl, ?_⟩) hHeld ?_ ?_
rotate_left
·(
rintro w' ⟨s0, s1, s2⟩
go_simp
with_reducible rfl
)
rotate_left
·(
simp only [Act.put, List.setIfInBounds_toArray, List.set_cons_zero, List.set_cons_succ, i64_w, i32_w]
rfl
)
refine take_ (i := 4) (N := some 20) (v := ?_) (a' := ?_) (bm 14 603) rfl rfl (take_ofW HT_.out HW_.out (by kernel_rfl)) (fun _ _ _ h => h) (Or.inl ⟨by rfl, ?_⟩) hHeld ?_ ?_
rotate_left
·(
rintro w' ⟨s0, s1, s2⟩
go_simp
with_reducible rfl
)
rotate_left
·(
simp only [Act.put, List.setIfInBounds_toArray, List.set_cons_zero, List.set_cons_succ, i64_w, i32_w]
rfl
)
refine take_ (i := 10) (N := some 26) (v := ?_) (a' := ?_) (bm 14 1627) rfl rfl (take_ofW HT_.out HW_.out (by kernel_rfl)) (fun _ _ _ h => h) (Or.inl ⟨by rfl, ?_⟩) hHeld ?_ ?_
rotate_left
·(
rintro w' ⟨s0, s1, s2⟩
go_simp
with_reducible rfl
)
rotate_left
·(
simp only [Act.put, List.setIfInBounds_toArray, List.set_cons_zero, List.set_cons_succ, i64_w, i32_w]
rfl
)
refine join_ (σ := Value × Value × Value × Value × Nat) 1 (bm 14 8191) (fun s_ => [(18, s_.1), (21, s_.2.1), (23, s_.2.2.1), (24, s_.2.2.2.1), (6, .pointer (some ⟨s_.2.2.2.2, 0, none⟩)), (27, .agg #[.int .i64 a0_0, s_.2.2.2.1, .int .i64 a0_2])]) (fun s_ w' => (w'.cell? ⟨gb107, 0, none⟩ = some (.int .i64 a0_0) ∧ w'.cell? ⟨gb107, 1, none⟩ = some (.slice A0_1 l0_1.length c0_1) ∧ w'.cell? ⟨gb107, 2, none⟩ = some (.int .i64 a0_2)) ∧ (Kd.R Kd.string 9 w' w.heap.size (fun k_ => some k_ ≠ (s_.2.2.2.1 : Value).ownBlock) s_.2.2.1 y116) ∧ (Kd.R Kd.string 9 w' w.heap.size (fun k_ => some k_ ≠ (s_.2.2.1 : Value).ownBlock) s_.2.2.2.1 y119) ∧ (w'.heap[gb107]? = some (.cells #[.int .i64 a0_0, .slice A0_1 l0_1.length c0_1, .int .i64 a0_2] 26 (0, 0))) ∧ (w'.heap[gb108]? = some (.cells #[.int .i64 0, .slice none 0 0, .int .i64 0] 26 (0, 0))) ∧ (w'.heap[s_.2.2.2.2]? = some (.cells #[.int .i64 0, .slice none 0 0, .int .i64 0] 26 (0, 0))) ∧ (w.heap.size ≤ s_.2.2.2.2) ∧ (w.heap.size ≤ s_.2.2.2.2) ∧ (gb107 ≠ s_.2.2.2.2) ∧ (s_.2.2.2.2 ≠ gb107) ∧ (gb108 ≠ s_.2.2.2.2) ∧ (s_.2.2.2.2 ≠ gb108) ∧ (Below w.heap.size w w')) ?_ ?_
rotate_left
·(
intro hJ2_5_7_8_12
refine join_ (σ := Value × Value × Value × Value) 2 (bm 14 4095) (fun s_ => [(18, s_.1), (21, s_.2.1), (23, s_.2.2.1), (24, s_.2.2.2), (27, .agg #[.int .i64 a0_0, s_.2.2.2, .int .i64 a0_2])]) (fun s_ w' => (w'.cell? ⟨gb107, 0, none⟩ = some (.int .i64 a0_0) ∧ w'.cell? ⟨gb107, 1, none⟩ = some (.slice A0_1 l0_1.length c0_1) ∧ w'.cell? ⟨gb107, 2, none⟩ = some (.int .i64 a0_2)) ∧ (Kd.R Kd.string 9 w' w.heap.size (fun k_ => some k_ ≠ (s_.2.2.2 : Value).ownBlock) s_.2.2.1 y116) ∧ (Kd.R Kd.string 9 w' w.heap.size (fun k_ => some k_ ≠ (s_.2.2.1 : Value).ownBlock) s_.2.2.2 y119) ∧ (w'.heap[gb107]? = some (.cells #[.int .i64 a0_0, .slice A0_1 l0_1.length c0_1, .int .i64 a0_2] 26 (0, 0))) ∧ (w'.heap[gb108]? = some (.cells #[.int .i64 0, .slice none 0 0, .int .i64 0] 26 (0, 0))) ∧ (Below w.heap.size w w')) ?_ ?_
rotate_left
·(
intro hJ2_5_7_8
refine join_ (σ := Value × Value × Value × Nat) 3 (bm 14 5887) (fun s_ => [(18, s_.1), (21, s_.2.1), (23, s_.2.2.1), (6, .pointer (some ⟨s_.2.2.2, 0, none⟩))]) (fun s_ w' => (w'.cell? ⟨gb107, 0, none⟩ = some (.int .i64 a0_0) ∧ w'.cell? ⟨gb107, 1, none⟩ = some (.slice A0_1 l0_1.length c0_1) ∧ w'.cell? ⟨gb107, 2, none⟩ = some (.int .i64 a0_2)) ∧ (Kd.R Kd.string 9 w' w.heap.size (fun k_ => some k_ ≠ (s_.2.2.1 : Value).ownBlock) s_.2.1 y113) ∧ (Kd.R Kd.string 9 w' w.heap.size (fun k_ => some k_ ≠ (s_.2.1 : Value).ownBlock) s_.2.2.1 y116) ∧ (w'.heap[gb107]? = some (.cells #[.int .i64 a0_0, .slice A0_1 l0_1.length c0_1, .int .i64 a0_2] 26 (0, 0))) ∧ (w'.heap[gb108]? = some (.cells #[.int .i64 0, .slice none 0 0, .int .i64 0] 26 (0, 0))) ∧ (w'.heap[s_.2.2.2]? = some (.cells #[.int .i64 0, .slice none 0 0, .int .i64 0] 26 (0, 0))) ∧ (w.heap.size ≤ s_.2.2.2) ∧ (w.heap.size ≤ s_.2.2.2) ∧ (gb107 ≠ s_.2.2.2) ∧ (s_.2.2.2 ≠ gb107) ∧ (gb108 ≠ s_.2.2.2) ∧ (s_.2.2.2 ≠ gb108) ∧ (Below w.heap.size w w')) ?_ ?_
rotate_left
·(
intro hJ2_5_7_12
refine join_ (σ := Value × Value × Value) 4 (bm 14 1791) (fun s_ => [(18, s_.1), (21, s_.2.1), (23, s_.2.2)]) (fun s_ w' => (w'.cell? ⟨gb107, 0, none⟩ = some (.int .i64 a0_0) ∧ w'.cell? ⟨gb107, 1, none⟩ = some (.slice A0_1 l0_1.length c0_1) ∧ w'.cell? ⟨gb107, 2, none⟩ = some (.int .i64 a0_2)) ∧ (Kd.R Kd.string 9 w' w.heap.size (fun k_ => some k_ ≠ (s_.2.2 : Value).ownBlock) s_.2.1 y113) ∧ (Kd.R Kd.string 9 w' w.heap.size (fun k_ => some k_ ≠ (s_.2.1 : Value).ownBlock) s_.2.2 y116) ∧ (w'.heap[gb107]? = some (.cells #[.int .i64 a0_0, .slice A0_1 l0_1.length c0_1, .int .i64 a0_2] 26 (0, 0))) ∧ (w'.heap[gb108]? = some (.cells #[.int .i64 0, .slice none 0 0, .int .i64 0] 26 (0, 0))) ∧ (Below w.heap.size w w')) ?_ ?_
rotate_left
·(
intro hJ2_5_7
refine join_ (σ := Value × Value × Nat) 4 (bm 14 5759) (fun s_ => [(18, s_.1), (21, s_.2.1), (6, .pointer (some ⟨s_.2.2, 0, none⟩))]) (fun s_ w' => (w'.cell? ⟨gb107, 0, none⟩ = some (.int .i64 a0_0) ∧ w'.cell? ⟨gb107, 1, none⟩ = some (.slice A0_1 l0_1.length c0_1) ∧ w'.cell? ⟨gb107, 2, none⟩ = some (.int .i64 a0_2)) ∧ (Kd.R Kd.string 9 w' w.heap.size (fun _ => True) s_.2.1 y113) ∧ (w'.heap[gb107]? = some (.cells #[.int .i64 a0_0, .slice A0_1 l0_1.length c0_1, .int .i64 a0_2] 26 (0, 0))) ∧ (w'.heap[gb108]? = some (.cells #[.int .i64 0, .slice none 0 0, .int .i64 0] 26 (0, 0))) ∧ (w'.heap[s_.2.2]? = some (.cells #[.int .i64 0, .slice none 0 0, .int .i64 0] 26 (0, 0))) ∧ (w.heap.size ≤ s_.2.2) ∧ (w.heap.size ≤ s_.2.2) ∧ (gb107 ≠ s_.2.2) ∧ (s_.2.2 ≠ gb107) ∧ (gb108 ≠ s_.2.2) ∧ (s_.2.2 ≠ gb108) ∧ (Below w.heap.size w w')) ?_ ?_
rotate_left
·(
intro hJ2_5_12
refine join_ (σ := Value × Value × Nat) 4 (bm 14 5855) (fun s_ => [(18, s_.1), (23, s_.2.1), (6, .pointer (some ⟨s_.2.2, 0, none⟩))]) (fun s_ w' => (w'.cell? ⟨gb107, 0, none⟩ = some (.int .i64 a0_0) ∧ w'.cell? ⟨gb107, 1, none⟩ = some (.slice A0_1 l0_1.length c0_1) ∧ w'.cell? ⟨gb107, 2, none⟩ = some (.int .i64 a0_2)) ∧ (Kd.R Kd.string 9 w' w.heap.size (fun k_ => some k_ ≠ (s_.2.1 : Value).ownBlock) s_.1 y110) ∧ (Kd.R Kd.string 9 w' w.heap.size (fun k_ => some k_ ≠ (s_.1 : Value).ownBlock) s_.2.1 y116) ∧ (w'.heap[gb107]? = some (.cells #[.int .i64 a0_0, .slice A0_1 l0_1.length c0_1, .int .i64 a0_2] 26 (0, 0))) ∧ (w'.heap[gb108]? = some (.cells #[.int .i64 0, .slice none 0 0, .int .i64 0] 26 (0, 0))) ∧ (w'.heap[s_.2.2]? = some (.cells #[.int .i64 0, .slice none 0 0, .int .i64 0] 26 (0, 0))) ∧ (w.heap.size ≤ s_.2.2) ∧ (w.heap.size ≤ s_.2.2) ∧ (gb107 ≠ s_.2.2) ∧ (s_.2.2 ≠ gb107) ∧ (gb108 ≠ s_.2.2) ∧ (s_.2.2 ≠ gb108) ∧ (Below w.heap.size w w')) ?_ ?_
rotate_left
·(
intro hJ2_7_12
refine join_ (σ := Value × Value) 5 (bm 14 1663) (fun s_ => [(18, s_.1), (21, s_.2)]) (fun s_ w' => (w'.cell? ⟨gb107, 0, none⟩ = some (.int .i64 a0_0) ∧ w'.cell? ⟨gb107, 1, none⟩ = some (.slice A0_1 l0_1.length c0_1) ∧ w'.cell? ⟨gb107, 2, none⟩ = some (.int .i64 a0_2)) ∧ (Kd.R Kd.string 9 w' w.heap.size (fun _ => True) s_.2 y113) ∧ (w'.heap[gb107]? = some (.cells #[.int .i64 a0_0, .slice A0_1 l0_1.length c0_1, .int .i64 a0_2] 26 (0, 0))) ∧ (w'.heap[gb108]? = some (.cells #[.int .i64 0, .slice none 0 0, .int .i64 0] 26 (0, 0))) ∧ (Below w.heap.size w w')) ?_ ?_
rotate_left
·(
intro hJ2_5
refine join_ (σ := Value × Value) 5 (bm 14 1759) (fun s_ => [(18, s_.1), (23, s_.2)]) (fun s_ w' => (w'.cell? ⟨gb107, 0, none⟩ = some (.int .i64 a0_0) ∧ w'.cell? ⟨gb107, 1, none⟩ = some (.slice A0_1 l0_1.length c0_1) ∧ w'.cell? ⟨gb107, 2, none⟩ = some (.int .i64 a0_2)) ∧ (Kd.R Kd.string 9 w' w.heap.size (fun k_ => some k_ ≠ (s_.2 : Value).ownBlock) s_.1 y110) ∧ (Kd.R Kd.string 9 w' w.heap.size (fun k_ => some k_ ≠ (s_.1 : Value).ownBlock) s_.2 y116) ∧ (w'.heap[gb107]? = some (.cells #[.int .i64 a0_0, .slice A0_1 l0_1.length c0_1, .int .i64 a0_2] 26 (0, 0))) ∧ (w'.heap[gb108]? = some (.cells #[.int .i64 0, .slice none 0 0, .int .i64 0] 26 (0, 0))) ∧ (Below w.heap.size w w')) ?_ ?_
rotate_left
·(
intro hJ2_7
refine join_ (σ := Value × Nat) 5 (bm 14 5727) (fun s_ => [(18, s_.1), (6, .pointer (some ⟨s_.2, 0, none⟩))]) (fun s_ w' => (w'.cell? ⟨gb107, 0, none⟩ = some (.int .i64 a0_0) ∧ w'.cell? ⟨gb107, 1, none⟩ = some (.slice A0_1 l0_1.length c0_1) ∧ w'.cell? ⟨gb107, 2, none⟩ = some (.int .i64 a0_2)) ∧ (Kd.R Kd.string 9 w' w.heap.size (fun _ => True) s_.1 y110) ∧ (w'.heap[gb107]? = some (.cells #[.int .i64 a0_0, .slice A0_1 l0_1.length c0_1, .int .i64 a0_2] 26 (0, 0))) ∧ (w'.heap[gb108]? = some (.cells #[.int .i64 0, .slice none 0 0, .int .i64 0] 26 (0, 0))) ∧ (w'.heap[s_.2]? = some (.cells #[.int .i64 0, .slice none 0 0, .int .i64 0] 26 (0, 0))) ∧ (w.heap.size ≤ s_.2) ∧ (w.heap.size ≤ s_.2) ∧ (gb107 ≠ s_.2) ∧ (s_.2 ≠ gb107) ∧ (gb108 ≠ s_.2) ∧ (s_.2 ≠ gb108) ∧ (Below w.heap.size w w')) ?_ ?_
rotate_left
·(
intro hJ2_12
refine join_ (σ := Value × Nat) 5 (bm 14 5851) (fun s_ => [(23, s_.1), (6, .pointer (some ⟨s_.2, 0, none⟩))]) (fun s_ w' => (w'.cell? ⟨gb107, 0, none⟩ = some (.int .i64 a0_0) ∧ w'.cell? ⟨gb107, 1, none⟩ = some (.slice A0_1 l0_1.length c0_1) ∧ w'.cell? ⟨gb107, 2, none⟩ = some (.int .i64 a0_2)) ∧ (Kd.R Kd.string 9 w' w.heap.size (fun _ => True) s_.1 y116) ∧ (w'.heap[gb107]? = some (.cells #[.int .i64 a0_0, .slice A0_1 l0_1.length c0_1, .int .i64 a0_2] 26 (0, 0))) ∧ (w'.heap[gb108]? = some (.cells #[.int .i64 0, .slice none 0 0, .int .i64 0] 26 (0, 0))) ∧ (w'.heap[s_.2]? = some (.cells #[.int .i64 0, .slice none 0 0, .int .i64 0] 26 (0, 0))) ∧ (w.heap.size ≤ s_.2) ∧ (w.heap.size ≤ s_.2) ∧ (gb107 ≠ s_.2) ∧ (s_.2 ≠ gb107) ∧ (gb108 ≠ s_.2) ∧ (s_.2 ≠ gb108) ∧ (Below w.heap.size w w')) ?_ ?_
rotate_left
·(
intro hJ7_12
refine join_ (σ := Value) 6 (bm 14 1631) (fun s_ => [(18, s_)]) (fun s_ w' => (w'.cell? ⟨gb107, 0, none⟩ = some (.int .i64 a0_0) ∧ w'.cell? ⟨gb107, 1, none⟩ = some (.slice A0_1 l0_1.length c0_1) ∧ w'.cell? ⟨gb107, 2, none⟩ = some (.int .i64 a0_2)) ∧ (Kd.R Kd.string 9 w' w.heap.size (fun _ => True) s_ y110) ∧ (w'.heap[gb107]? = some (.cells #[.int .i64 a0_0, .slice A0_1 l0_1.length c0_1, .int .i64 a0_2] 26 (0, 0))) ∧ (w'.heap[gb108]? = some (.cells #[.int .i64 0, .slice none 0 0, .int .i64 0] 26 (0, 0))) ∧ (Below w.heap.size w w')) ?_ ?_
rotate_left
·(
intro hJ2
refine join_ (σ := Value) 6 (bm 14 1755) (fun s_ => [(23, s_)]) (fun s_ w' => (w'.cell? ⟨gb107, 0, none⟩ = some (.int .i64 a0_0) ∧ w'.cell? ⟨gb107, 1, none⟩ = some (.slice A0_1 l0_1.length c0_1) ∧ w'.cell? ⟨gb107, 2, none⟩ = some (.int .i64 a0_2)) ∧ (Kd.R Kd.string 9 w' w.heap.size (fun _ => True) s_ y116) ∧ (w'.heap[gb107]? = some (.cells #[.int .i64 a0_0, .slice A0_1 l0_1.length c0_1, .int .i64 a0_2] 26 (0, 0))) ∧ (w'.heap[gb108]? = some (.cells #[.int .i64 0, .slice none 0 0, .int .i64 0] 26 (0, 0))) ∧ (Below w.heap.size w w')) ?_ ?_
rotate_left
·(
intro hJ7
refine join_ (σ := Nat) 6 (bm 14 5723) (fun s_ => [(6, .pointer (some ⟨s_, 0, none⟩))]) (fun s_ w' => (w'.cell? ⟨gb107, 0, none⟩ = some (.int .i64 a0_0) ∧ w'.cell? ⟨gb107, 1, none⟩ = some (.slice A0_1 l0_1.length c0_1) ∧ w'.cell? ⟨gb107, 2, none⟩ = some (.int .i64 a0_2)) ∧ (w'.heap[gb107]? = some (.cells #[.int .i64 a0_0, .slice A0_1 l0_1.length c0_1, .int .i64 a0_2] 26 (0, 0))) ∧ (w'.heap[gb108]? = some (.cells #[.int .i64 0, .slice none 0 0, .int .i64 0] 26 (0, 0))) ∧ (w'.heap[s_]? = some (.cells #[.int .i64 0, .slice none 0 0, .int .i64 0] 26 (0, 0))) ∧ (w.heap.size ≤ s_) ∧ (w.heap.size ≤ s_) ∧ (gb107 ≠ s_) ∧ (s_ ≠ gb107) ∧ (gb108 ≠ s_) ∧ (s_ ≠ gb108) ∧ (Below w.heap.size w w')) ?_ ?_
rotate_left
·(
intro hJ12
refine three_ (i := 2) (j := 7) (k := 12) (Ni := some 18) (Nj := some 23) (Nk := some 6) (bm 14 1631) (bm 14 1755) (bm 14 5723) rfl rfl rfl rfl rfl rfl (three_of HT_.out (by kernel_rfl)) (by decide) (by decide) (by decide) (fun K hK => ?_) (fun K hK => ?_) (fun K hK => ?_)
·(
skip
refine Kd.R_lit_step Kd.string _ 9 ?hg (N := 18) ?hd (xs := ([] : List ByteArray)) (inner := []) (ok := fun _ => True) (okp := fun _ => True) ?hr ?hp (fun _ hk => hk) trivial (Below.refl _ _) (Nat.le_refl _) (by simp) ?_; (case hd => rfl); (case hg => rfl); (case hr => first | (go_simp; done) | (go_simp; rfl)); (case hp => exact (Reps.none _ _))
intro v111 w23 ho24 hb hg_ hnew_
clear hg_ hnew_
(first | rw [← Ny110.out] at ho24 | (simp only [Int.reduceToNat] at ho24; rw [← Ny110.out] at ho24))
have HO112 := am (Kd.R_lower ho24 (below_size (rb2 HB GE107 GE108)))
replace BK107 := am (blk_below (rk BK107) hb)
replace BK108 := am (blk_below (rk BK108) hb)
replace HB := am (below_step (rb2 HB GE107 GE108) hb)
clear hb ho24
refine hK.out _ _ (bc3 BK107) (fun hHeld => ?_)
clear hK K
refine norm_ (a' := _) (show Act.put _ (some 18) _ = _ from na) ?_
exact norm_ nz (hJ2 (v111) _ ⟨hHeld, (rr HO112), (rk BK107), (rk BK108), (rb2 HB GE107 GE108)⟩)
)
·(
skip
refine Kd.R_lit_step Kd.string _ 9 ?hg (N := 23) ?hd (xs := ([a1] : List ByteArray)) (inner := [.string a1]) (ok := fun _ => True) (okp := fun _ => True) ?hr ?hp (fun _ hk => hk) trivial (Below.refl _ _) (Nat.le_refl _) (by simp) ?_; (case hd => rfl); (case hg => rfl); (case hr => first | (go_simp; done) | (go_simp; rfl)); (case hp => exact (Reps.one (show Kd.M Kd.string _ _ _ a1 [.string a1] from rfl) (Reps.none _ _)))
intro v117 w23 ho24 hb hg_ hnew_
clear hg_ hnew_
(first | rw [← Ny116.out] at ho24 | (simp only [Int.reduceToNat] at ho24; rw [← Ny116.out] at ho24))
have HO118 := am (Kd.R_lower ho24 (below_size (rb2 HB GE107 GE108)))
replace BK107 := am (blk_below (rk BK107) hb)
replace BK108 := am (blk_below (rk BK108) hb)
replace HB := am (below_step (rb2 HB GE107 GE108) hb)
clear hb ho24
refine hK.out _ _ (bc3 BK107) (fun hHeld => ?_)
clear hK K
refine norm_ (a' := _) (show Act.put _ (some 23) _ = _ from na) ?_
exact norm_ nz (hJ7 (v117) _ ⟨hHeld, (rr HO118), (rk BK107), (rk BK108), (rb2 HB GE107 GE108)⟩)
)
·(
skip
refine box_step ?hg (N := 6) ?hd (cs := #[.int .i64 0, .slice none 0 0, .int .i64 0]) (t := 26) ?hr ?_; (case hd => rfl); (case hg => rfl); (case hr => first | (go_simp; done) | (go_simp; rfl))
intro gb122 hg w23 hbox hb
have BK122 := am (hbox)
have GW122 := am (gw hg (rb2 HB GE107 GE108))
have GE122 := GW122
replace HB := am (below_step (rb2 HB GE107 GE108) hb)
have NB107_122 := am (nl hg (rk BK107))
have NB122_107 := am (ng hg (rk BK107))
replace BK107 := am (blk_below (rk BK107) hb)
have NB108_122 := am (nl hg (rk BK108))
have NB122_108 := am (ng hg (rk BK108))
replace BK108 := am (blk_below (rk BK108) hb)
clear hb hbox hg
refine hK.out _ _ (bc3 BK107) (fun hHeld => ?_)
clear hK K
refine norm_ (a' := _) (show Act.put _ (some 6) _ = _ from na) ?_
exact norm_ nz (hJ12 (gb122) _ ⟨hHeld, (rk BK107), (rk BK108), (rk BK122), GW122.out, GE122.out, NB107_122.out, NB122_107.out, NB108_122.out, NB122_108.out, (rb3 HB GE107 GE108 GE122)⟩)
)
)
·(
skip
rintro gb122 w24 ⟨hHeld, h0_, h1_, h2_, h3_, h4_, h5_, h6_, h7_, h8_, h9_⟩
(try dsimp only at hHeld h0_ h1_ h2_ h3_ h4_ h5_ h6_ h7_ h8_ h9_)
replace BK107 := am h0_; replace BK108 := am h1_; have BK122 := am h2_; have GW122 := am h3_; have GE122 := am h4_; have NB107_122 := am h5_; have NB122_107 := am h6_; have NB108_122 := am h7_; have NB122_108 := am h8_; replace HB := am h9_
clear h0_ h1_ h2_ h3_ h4_ h5_ h6_ h7_ h8_ h9_
refine norm_ (a' := _) nr ?_
refine two_ (i := 2) (j := 7) (Ni := some 18) (Nj := some 23) (bm 14 5727) (bm 14 5851) rfl rfl rfl rfl (two_of HT_.out (by kernel_rfl)) (by decide) (by decide) (fun K hK => ?_) (fun K hK => ?_)
·(
skip
refine Kd.R_lit_step Kd.string _ 9 ?hg (N := 18) ?hd (xs := ([] : List ByteArray)) (inner := []) (ok := fun _ => True) (okp := fun _ => True) ?hr ?hp (fun _ hk => hk) trivial (Below.refl _ _) (Nat.le_refl _) (by simp) ?_; (case hd => rfl); (case hg => rfl); (case hr => first | (go_simp; done) | (go_simp; rfl)); (case hp => exact (Reps.none _ _))
intro v111 w25 ho26 hb hg_ hnew_
clear hg_ hnew_
(first | rw [← Ny110.out] at ho26 | (simp only [Int.reduceToNat] at ho26; rw [← Ny110.out] at ho26))
have HO112 := am (Kd.R_lower ho26 (below_size (rb3 HB GE107 GE108 GE122)))
replace BK107 := am (blk_below (rk BK107) hb)
replace BK108 := am (blk_below (rk BK108) hb)
replace BK122 := am (blk_below (rk BK122) hb)
replace HB := am (below_step (rb3 HB GE107 GE108 GE122) hb)
clear hb ho26
refine hK.out _ _ (bc3 BK107) (fun hHeld => ?_)
clear hK K
refine norm_ (a' := _) (show Act.put _ (some 18) _ = _ from na) ?_
exact norm_ nz (hJ2_12 (v111, gb122) _ ⟨hHeld, (rr HO112), (rk BK107), (rk BK108), (rk BK122), GW122.out, GE122.out, NB107_122.out, NB122_107.out, NB108_122.out, NB122_108.out, (rb3 HB GE107 GE108 GE122)⟩)
)
·(
skip
refine Kd.R_lit_step Kd.string _ 9 ?hg (N := 23) ?hd (xs := ([a1] : List ByteArray)) (inner := [.string a1]) (ok := fun _ => True) (okp := fun _ => True) ?hr ?hp (fun _ hk => hk) trivial (Below.refl _ _) (Nat.le_refl _) (by simp) ?_; (case hd => rfl); (case hg => rfl); (case hr => first | (go_simp; done) | (go_simp; rfl)); (case hp => exact (Reps.one (show Kd.M Kd.string _ _ _ a1 [.string a1] from rfl) (Reps.none _ _)))
intro v117 w25 ho26 hb hg_ hnew_
clear hg_ hnew_
(first | rw [← Ny116.out] at ho26 | (simp only [Int.reduceToNat] at ho26; rw [← Ny116.out] at ho26))
have HO118 := am (Kd.R_lower ho26 (below_size (rb3 HB GE107 GE108 GE122)))
replace BK107 := am (blk_below (rk BK107) hb)
replace BK108 := am (blk_below (rk BK108) hb)
replace BK122 := am (blk_below (rk BK122) hb)
replace HB := am (below_step (rb3 HB GE107 GE108 GE122) hb)
clear hb ho26
refine hK.out _ _ (bc3 BK107) (fun hHeld => ?_)
clear hK K
refine norm_ (a' := _) (show Act.put _ (some 23) _ = _ from na) ?_
exact norm_ nz (hJ7_12 (v117, gb122) _ ⟨hHeld, (rr HO118), (rk BK107), (rk BK108), (rk BK122), GW122.out, GE122.out, NB107_122.out, NB122_107.out, NB108_122.out, NB122_108.out, (rb3 HB GE107 GE108 GE122)⟩)
)
)
)
·(
skip
rintro v117 w25 ⟨hHeld, h0_, h1_, h2_, h3_⟩
(try dsimp only at hHeld h0_ h1_ h2_ h3_)
have HO118 := am h0_; replace BK107 := am h1_; replace BK108 := am h2_; replace HB := am h3_
clear h0_ h1_ h2_ h3_
refine norm_ (a' := _) nr ?_
refine two_ (i := 2) (j := 12) (Ni := some 18) (Nj := some 6) (bm 14 1759) (bm 14 5851) rfl rfl rfl rfl (two_of HT_.out (by kernel_rfl)) (by decide) (by decide) (fun K hK => ?_) (fun K hK => ?_)
·(
skip
refine Kd.R_lit_step Kd.string _ 9 ?hg (N := 18) ?hd (xs := ([] : List ByteArray)) (inner := []) (ok := fun _ => True) (okp := fun _ => True) ?hr ?hp (fun _ hk => hk) trivial (Below.refl _ _) (Nat.le_refl _) (by simp) ?_; (case hd => rfl); (case hg => rfl); (case hr => first | (go_simp; done) | (go_simp; rfl)); (case hp => exact (Reps.none _ _))
intro v111 w26 ho27 hb hg_ hnew_
clear hg_ hnew_
(first | rw [← Ny110.out] at ho27 | (simp only [Int.reduceToNat] at ho27; rw [← Ny110.out] at ho27))
have HO112 := am (Kd.R_lower (Kd.R_new' ho27 (Kd.R_lt (rr HO118))) (below_size (rb2 HB GE107 GE108)))
replace HO118 := am (Kd.R_elder' (rr HO118) (Kd.R_base ho27) hb)
replace BK107 := am (blk_below (rk BK107) hb)
replace BK108 := am (blk_below (rk BK108) hb)
replace HB := am (below_step (rb2 HB GE107 GE108) hb)
clear hb ho27
refine hK.out _ _ (bc3 BK107) (fun hHeld => ?_)
clear hK K
refine norm_ (a' := _) (show Act.put _ (some 18) _ = _ from na) ?_
exact norm_ nz (hJ2_7 (v111, v117) _ ⟨hHeld, (rrm HO112), (rrm HO118), (rk BK107), (rk BK108), (rb2 HB GE107 GE108)⟩)
)
·(
skip
refine box_step ?hg (N := 6) ?hd (cs := #[.int .i64 0, .slice none 0 0, .int .i64 0]) (t := 26) ?hr ?_; (case hd => rfl); (case hg => rfl); (case hr => first | (go_simp; done) | (go_simp; rfl))
intro gb122 hg w26 hbox hb
replace HO118 := am (Kd.R_below (rr HO118) hb)
have BK122 := am (hbox)
have GW122 := am (gw hg (rb2 HB GE107 GE108))
have GE122 := GW122
replace HB := am (below_step (rb2 HB GE107 GE108) hb)
have NB107_122 := am (nl hg (rk BK107))
have NB122_107 := am (ng hg (rk BK107))
replace BK107 := am (blk_below (rk BK107) hb)
have NB108_122 := am (nl hg (rk BK108))
have NB122_108 := am (ng hg (rk BK108))
replace BK108 := am (blk_below (rk BK108) hb)
clear hb hbox hg
refine hK.out _ _ (bc3 BK107) (fun hHeld => ?_)
clear hK K
refine norm_ (a' := _) (show Act.put _ (some 6) _ = _ from na) ?_
exact norm_ nz (hJ7_12 (v117, gb122) _ ⟨hHeld, (rr HO118), (rk BK107), (rk BK108), (rk BK122), GW122.out, GE122.out, NB107_122.out, NB122_107.out, NB108_122.out, NB122_108.out, (rb3 HB GE107 GE108 GE122)⟩)
)
)
)
·(
skip
rintro v111 w25 ⟨hHeld, h0_, h1_, h2_, h3_⟩
(try dsimp only at hHeld h0_ h1_ h2_ h3_)
have HO112 := am h0_; replace BK107 := am h1_; replace BK108 := am h2_; replace HB := am h3_
clear h0_ h1_ h2_ h3_
refine norm_ (a' := _) nr ?_
refine three_ (i := 5) (j := 7) (k := 12) (Ni := some 21) (Nj := some 23) (Nk := some 6) (bm 14 1663) (bm 14 1759) (bm 14 5727) rfl rfl rfl rfl rfl rfl (three_of HT_.out (by kernel_rfl)) (by decide) (by decide) (by decide) (fun K hK => ?_) (fun K hK => ?_) (fun K hK => ?_)
·(
skip
refine Kd.R_append_rows_step Kd.string (w0 := w) w.heap.size (by rfl) (.tmp 18) (.tmp 20) 24 9 (.string ⟨#[]⟩) 16 rfl Try.underlying24 info9 rfl (by decide) (by omega) v111 y110 l0_1 _ _ _ (fun _ => True) (fun _ => False) rfl rfl ?aO ?aR (fun _ _ h => h) (fun _ h => h.elim) ?aF ?aB ?aS ?aL ?_
(case aR => repeat (first | exact (Kd.C_below HR0_1.out HB.out) | (with_reducible refine Kd.C_alloc ?_ _) | (with_reducible refine Kd.C_drewN ?_ _) | (with_reducible refine Kd.C_drew ?_)))
(case aB => exact (rb2 HB GE107 GE108))
(case aF => exact (fun _ _ => trivial))
(case aO => exact (rr HO112))
(case aS => exact (below_size (rb2 HB GE107 GE108)))
(case aL => have := LMc17.out; omega)
intro v114 w26 ho hb hg hat
rw [← Ny113.out] at ho
replace BK107 := am (blk_grown (rk BK107) hg (Kd.R_ne HO112.out BK107.out (by decide)))
replace BK108 := am (blk_grown (rk BK108) hg (Kd.R_ne HO112.out BK108.out (by decide)))
replace HB := am (hb)
have HO115 := am (ho)
clear HO112
clear ho hb hg hat
refine hK.out _ _ (bc3 BK107) (fun hHeld => ?_)
clear hK K
refine norm_ (a' := _) (show Act.put _ (some 21) _ = _ from na) ?_
exact norm_ nz (hJ2_5 (v111, v114) _ ⟨hHeld, (rr HO115), (rk BK107), (rk BK108), (rb2 HB GE107 GE108)⟩)
)
·(
skip
refine Kd.R_lit_step Kd.string _ 9 ?hg (N := 23) ?hd (xs := ([a1] : List ByteArray)) (inner := [.string a1]) (ok := fun _ => True) (okp := fun _ => True) ?hr ?hp (fun _ hk => hk) trivial (Below.refl _ _) (Nat.le_refl _) (by simp) ?_; (case hd => rfl); (case hg => rfl); (case hr => first | (go_simp; done) | (go_simp; rfl)); (case hp => exact (Reps.one (show Kd.M Kd.string _ _ _ a1 [.string a1] from rfl) (Reps.none _ _)))
intro v117 w26 ho27 hb hg_ hnew_
clear hg_ hnew_
(first | rw [← Ny116.out] at ho27 | (simp only [Int.reduceToNat] at ho27; rw [← Ny116.out] at ho27))
have HO118 := am (Kd.R_lower (Kd.R_new' ho27 (Kd.R_lt (rr HO112))) (below_size (rb2 HB GE107 GE108)))
replace HO112 := am (Kd.R_elder' (rr HO112) (Kd.R_base ho27) hb)
replace BK107 := am (blk_below (rk BK107) hb)
replace BK108 := am (blk_below (rk BK108) hb)
replace HB := am (below_step (rb2 HB GE107 GE108) hb)
clear hb ho27
refine hK.out _ _ (bc3 BK107) (fun hHeld => ?_)
clear hK K
refine norm_ (a' := _) (show Act.put _ (some 23) _ = _ from na) ?_
exact norm_ nz (hJ2_7 (v111, v117) _ ⟨hHeld, (rrm HO112), (rrm HO118), (rk BK107), (rk BK108), (rb2 HB GE107 GE108)⟩)
)
·(
skip
refine box_step ?hg (N := 6) ?hd (cs := #[.int .i64 0, .slice none 0 0, .int .i64 0]) (t := 26) ?hr ?_; (case hd => rfl); (case hg => rfl); (case hr => first | (go_simp; done) | (go_simp; rfl))
intro gb122 hg w26 hbox hb
replace HO112 := am (Kd.R_below (rr HO112) hb)
have BK122 := am (hbox)
have GW122 := am (gw hg (rb2 HB GE107 GE108))
have GE122 := GW122
replace HB := am (below_step (rb2 HB GE107 GE108) hb)
have NB107_122 := am (nl hg (rk BK107))
have NB122_107 := am (ng hg (rk BK107))
replace BK107 := am (blk_below (rk BK107) hb)
have NB108_122 := am (nl hg (rk BK108))
have NB122_108 := am (ng hg (rk BK108))
replace BK108 := am (blk_below (rk BK108) hb)
clear hb hbox hg
refine hK.out _ _ (bc3 BK107) (fun hHeld => ?_)
clear hK K
refine norm_ (a' := _) (show Act.put _ (some 6) _ = _ from na) ?_
exact norm_ nz (hJ2_12 (v111, gb122) _ ⟨hHeld, (rr HO112), (rk BK107), (rk BK108), (rk BK122), GW122.out, GE122.out, NB107_122.out, NB122_107.out, NB108_122.out, NB122_108.out, (rb3 HB GE107 GE108 GE122)⟩)
)
)
)
·(
skip
rintro ⟨v117, gb122⟩ w26 ⟨hHeld, h0_, h1_, h2_, h3_, h4_, h5_, h6_, h7_, h8_, h9_, h10_⟩
(try dsimp only at hHeld h0_ h1_ h2_ h3_ h4_ h5_ h6_ h7_ h8_ h9_ h10_)
have HO118 := am h0_; replace BK107 := am h1_; replace BK108 := am h2_; have BK122 := am h3_; have GW122 := am h4_; have GE122 := am h5_; have NB107_122 := am h6_; have NB122_107 := am h7_; have NB108_122 := am h8_; have NB122_108 := am h9_; replace HB := am h10_
clear h0_ h1_ h2_ h3_ h4_ h5_ h6_ h7_ h8_ h9_ h10_
refine norm_ (a' := _) nr ?_
refine one_ (i := 2) (N := some 18) (bm 14 5855) rfl rfl (one_of HT_.out (by kernel_rfl)) (by decide) (fun K hK => ?_)
refine Kd.R_lit_step Kd.string _ 9 ?hg (N := 18) ?hd (xs := ([] : List ByteArray)) (inner := []) (ok := fun _ => True) (okp := fun _ => True) ?hr ?hp (fun _ hk => hk) trivial (Below.refl _ _) (Nat.le_refl _) (by simp) ?_; (case hd => rfl); (case hg => rfl); (case hr => first | (go_simp; done) | (go_simp; rfl)); (case hp => exact (Reps.none _ _))
intro v111 w27 ho28 hb hg_ hnew_
clear hg_ hnew_
(first | rw [← Ny110.out] at ho28 | (simp only [Int.reduceToNat] at ho28; rw [← Ny110.out] at ho28))
have HO112 := am (Kd.R_lower (Kd.R_new' ho28 (Kd.R_lt (rr HO118))) (below_size (rb3 HB GE107 GE108 GE122)))
replace HO118 := am (Kd.R_elder' (rr HO118) (Kd.R_base ho28) hb)
replace BK107 := am (blk_below (rk BK107) hb)
replace BK108 := am (blk_below (rk BK108) hb)
replace BK122 := am (blk_below (rk BK122) hb)
replace HB := am (below_step (rb3 HB GE107 GE108 GE122) hb)
clear hb ho28
refine hK.out _ _ (bc3 BK107) (fun hHeld => ?_)
clear hK K
refine norm_ (a' := _) (show Act.put _ (some 18) _ = _ from na) ?_
exact norm_ nz (hJ2_7_12 (v111, v117, gb122) _ ⟨hHeld, (rrm HO112), (rrm HO118), (rk BK107), (rk BK108), (rk BK122), GW122.out, GE122.out, NB107_122.out, NB122_107.out, NB108_122.out, NB122_108.out, (rb3 HB GE107 GE108 GE122)⟩)
)
)
·(
skip
rintro ⟨v111, gb122⟩ w26 ⟨hHeld, h0_, h1_, h2_, h3_, h4_, h5_, h6_, h7_, h8_, h9_, h10_⟩
(try dsimp only at hHeld h0_ h1_ h2_ h3_ h4_ h5_ h6_ h7_ h8_ h9_ h10_)
have HO112 := am h0_; replace BK107 := am h1_; replace BK108 := am h2_; have BK122 := am h3_; have GW122 := am h4_; have GE122 := am h5_; have NB107_122 := am h6_; have NB122_107 := am h7_; have NB108_122 := am h8_; have NB122_108 := am h9_; replace HB := am h10_
clear h0_ h1_ h2_ h3_ h4_ h5_ h6_ h7_ h8_ h9_ h10_
refine norm_ (a' := _) nr ?_
refine two_ (i := 5) (j := 7) (Ni := some 21) (Nj := some 23) (bm 14 5759) (bm 14 5855) rfl rfl rfl rfl (two_of HT_.out (by kernel_rfl)) (by decide) (by decide) (fun K hK => ?_) (fun K hK => ?_)
·(
skip
refine Kd.R_append_rows_step Kd.string (w0 := w) w.heap.size (by rfl) (.tmp 18) (.tmp 20) 24 9 (.string ⟨#[]⟩) 16 rfl Try.underlying24 info9 rfl (by decide) (by omega) v111 y110 l0_1 _ _ _ (fun _ => True) (fun _ => False) rfl rfl ?aO ?aR (fun _ _ h => h) (fun _ h => h.elim) ?aF ?aB ?aS ?aL ?_
(case aR => repeat (first | exact (Kd.C_below HR0_1.out HB.out) | (with_reducible refine Kd.C_alloc ?_ _) | (with_reducible refine Kd.C_drewN ?_ _) | (with_reducible refine Kd.C_drew ?_)))
(case aB => exact (rb3 HB GE107 GE108 GE122))
(case aF => exact (fun _ _ => trivial))
(case aO => exact (rr HO112))
(case aS => exact (below_size (rb3 HB GE107 GE108 GE122)))
(case aL => have := LMc17.out; omega)
intro v114 w27 ho hb hg hat
rw [← Ny113.out] at ho
replace BK107 := am (blk_grown (rk BK107) hg (Kd.R_ne HO112.out BK107.out (by decide)))
replace BK108 := am (blk_grown (rk BK108) hg (Kd.R_ne HO112.out BK108.out (by decide)))
replace BK122 := am (blk_grown (rk BK122) hg (Kd.R_ne HO112.out BK122.out (by decide)))
replace HB := am (hb)
have HO115 := am (ho)
clear HO112
clear ho hb hg hat
refine hK.out _ _ (bc3 BK107) (fun hHeld => ?_)
clear hK K
refine norm_ (a' := _) (show Act.put _ (some 21) _ = _ from na) ?_
exact norm_ nz (hJ2_5_12 (v111, v114, gb122) _ ⟨hHeld, (rr HO115), (rk BK107), (rk BK108), (rk BK122), GW122.out, GE122.out, NB107_122.out, NB122_107.out, NB108_122.out, NB122_108.out, (rb3 HB GE107 GE108 GE122)⟩)
)
·(
skip
refine Kd.R_lit_step Kd.string _ 9 ?hg (N := 23) ?hd (xs := ([a1] : List ByteArray)) (inner := [.string a1]) (ok := fun _ => True) (okp := fun _ => True) ?hr ?hp (fun _ hk => hk) trivial (Below.refl _ _) (Nat.le_refl _) (by simp) ?_; (case hd => rfl); (case hg => rfl); (case hr => first | (go_simp; done) | (go_simp; rfl)); (case hp => exact (Reps.one (show Kd.M Kd.string _ _ _ a1 [.string a1] from rfl) (Reps.none _ _)))
intro v117 w27 ho28 hb hg_ hnew_
clear hg_ hnew_
(first | rw [← Ny116.out] at ho28 | (simp only [Int.reduceToNat] at ho28; rw [← Ny116.out] at ho28))
have HO118 := am (Kd.R_lower (Kd.R_new' ho28 (Kd.R_lt (rr HO112))) (below_size (rb3 HB GE107 GE108 GE122)))
replace HO112 := am (Kd.R_elder' (rr HO112) (Kd.R_base ho28) hb)
replace BK107 := am (blk_below (rk BK107) hb)
replace BK108 := am (blk_below (rk BK108) hb)
replace BK122 := am (blk_below (rk BK122) hb)
replace HB := am (below_step (rb3 HB GE107 GE108 GE122) hb)
clear hb ho28
refine hK.out _ _ (bc3 BK107) (fun hHeld => ?_)
clear hK K
refine norm_ (a' := _) (show Act.put _ (some 23) _ = _ from na) ?_
exact norm_ nz (hJ2_7_12 (v111, v117, gb122) _ ⟨hHeld, (rrm HO112), (rrm HO118), (rk BK107), (rk BK108), (rk BK122), GW122.out, GE122.out, NB107_122.out, NB122_107.out, NB108_122.out, NB122_108.out, (rb3 HB GE107 GE108 GE122)⟩)
)
)
)
·(
skip
rintro ⟨v111, v117⟩ w27 ⟨hHeld, h0_, h1_, h2_, h3_, h4_⟩
(try dsimp only at hHeld h0_ h1_ h2_ h3_ h4_)
have HO112 := am h0_; have HO118 := am h1_; replace BK107 := am h2_; replace BK108 := am h3_; replace HB := am h4_
clear h0_ h1_ h2_ h3_ h4_
refine norm_ (a' := _) nr ?_
refine two_ (i := 5) (j := 12) (Ni := some 21) (Nj := some 6) (bm 14 1791) (bm 14 5855) rfl rfl rfl rfl (two_of HT_.out (by kernel_rfl)) (by decide) (by decide) (fun K hK => ?_) (fun K hK => ?_)
·(
skip
refine Kd.R_append_rows_step Kd.string (w0 := w) w.heap.size (by rfl) (.tmp 18) (.tmp 20) 24 9 (.string ⟨#[]⟩) 16 rfl Try.underlying24 info9 rfl (by decide) (by omega) v111 y110 l0_1 _ _ _ (fun k_ => some k_ ≠ (v117 : Value).ownBlock) (fun _ => False) rfl rfl ?aO ?aR (fun _ _ h => h) (fun _ h => h.elim) ?aF ?aB ?aS ?aL ?_
(case aR => repeat (first | exact (Kd.C_below HR0_1.out HB.out) | (with_reducible refine Kd.C_alloc ?_ _) | (with_reducible refine Kd.C_drewN ?_ _) | (with_reducible refine Kd.C_drew ?_)))
(case aB => exact (rb2 HB GE107 GE108))
(case aF => exact (fun k_ hk => Kd.fresh' (Kd.R_lt (rr HO118)) k_ hk))
(case aO => exact (rr HO112))
(case aS => exact (below_size (rb2 HB GE107 GE108)))
(case aL => have := LMc17.out; omega)
intro v114 w28 ho hb hg hat
rw [← Ny113.out] at ho
replace BK107 := am (blk_grown (rk BK107) hg (Kd.R_ne HO112.out BK107.out (by decide)))
replace BK108 := am (blk_grown (rk BK108) hg (Kd.R_ne HO112.out BK108.out (by decide)))
replace HO118 := am (Kd.R_after (ok := (fun _ => True)) (by (with_reducible repeat (first | apply r1 | apply r2 | apply r3)); exact Kd.R_mono HO118.out (fun _ hk => ⟨trivial, hk⟩)) hg hat)
replace HB := am (hb)
have HO115 := am (ho)
clear HO112
clear ho hb hg hat
refine hK.out _ _ (bc3 BK107) (fun hHeld => ?_)
clear hK K
refine norm_ (a' := _) (show Act.put _ (some 21) _ = _ from na) ?_
exact norm_ nz (hJ2_5_7 (v111, v114, v117) _ ⟨hHeld, (rr HO115), (rrm HO118), (rk BK107), (rk BK108), (rb2 HB GE107 GE108)⟩)
)
·(
skip
refine box_step ?hg (N := 6) ?hd (cs := #[.int .i64 0, .slice none 0 0, .int .i64 0]) (t := 26) ?hr ?_; (case hd => rfl); (case hg => rfl); (case hr => first | (go_simp; done) | (go_simp; rfl))
intro gb122 hg w28 hbox hb
replace HO112 := am (Kd.R_below (rr HO112) hb)
replace HO118 := am (Kd.R_below (rr HO118) hb)
have BK122 := am (hbox)
have GW122 := am (gw hg (rb2 HB GE107 GE108))
have GE122 := GW122
replace HB := am (below_step (rb2 HB GE107 GE108) hb)
have NB107_122 := am (nl hg (rk BK107))
have NB122_107 := am (ng hg (rk BK107))
replace BK107 := am (blk_below (rk BK107) hb)
have NB108_122 := am (nl hg (rk BK108))
have NB122_108 := am (ng hg (rk BK108))
replace BK108 := am (blk_below (rk BK108) hb)
clear hb hbox hg
refine hK.out _ _ (bc3 BK107) (fun hHeld => ?_)
clear hK K
refine norm_ (a' := _) (show Act.put _ (some 6) _ = _ from na) ?_
exact norm_ nz (hJ2_7_12 (v111, v117, gb122) _ ⟨hHeld, (rr HO112), (rr HO118), (rk BK107), (rk BK108), (rk BK122), GW122.out, GE122.out, NB107_122.out, NB122_107.out, NB108_122.out, NB122_108.out, (rb3 HB GE107 GE108 GE122)⟩)
)
)
)
·(
skip
rintro ⟨v111, v114⟩ w26 ⟨hHeld, h0_, h1_, h2_, h3_⟩
(try dsimp only at hHeld h0_ h1_ h2_ h3_)
have HO115 := am h0_; replace BK107 := am h1_; replace BK108 := am h2_; replace HB := am h3_
clear h0_ h1_ h2_ h3_
refine norm_ (a' := _) nr ?_
refine two_ (i := 7) (j := 12) (Ni := some 23) (Nj := some 6) (bm 14 1791) (bm 14 5759) rfl rfl rfl rfl (two_of HT_.out (by kernel_rfl)) (by decide) (by decide) (fun K hK => ?_) (fun K hK => ?_)
·(
skip
refine Kd.R_lit_step Kd.string _ 9 ?hg (N := 23) ?hd (xs := ([a1] : List ByteArray)) (inner := [.string a1]) (ok := fun _ => True) (okp := fun _ => True) ?hr ?hp (fun _ hk => hk) trivial (Below.refl _ _) (Nat.le_refl _) (by simp) ?_; (case hd => rfl); (case hg => rfl); (case hr => first | (go_simp; done) | (go_simp; rfl)); (case hp => exact (Reps.one (show Kd.M Kd.string _ _ _ a1 [.string a1] from rfl) (Reps.none _ _)))
intro v117 w27 ho28 hb hg_ hnew_
clear hg_ hnew_
(first | rw [← Ny116.out] at ho28 | (simp only [Int.reduceToNat] at ho28; rw [← Ny116.out] at ho28))
have HO118 := am (Kd.R_lower (Kd.R_new' ho28 (Kd.R_lt (rr HO115))) (below_size (rb2 HB GE107 GE108)))
replace HO115 := am (Kd.R_elder' (rr HO115) (Kd.R_base ho28) hb)
replace BK107 := am (blk_below (rk BK107) hb)
replace BK108 := am (blk_below (rk BK108) hb)
replace HB := am (below_step (rb2 HB GE107 GE108) hb)
clear hb ho28
refine hK.out _ _ (bc3 BK107) (fun hHeld => ?_)
clear hK K
refine norm_ (a' := _) (show Act.put _ (some 23) _ = _ from na) ?_
exact norm_ nz (hJ2_5_7 (v111, v114, v117) _ ⟨hHeld, (rrm HO115), (rrm HO118), (rk BK107), (rk BK108), (rb2 HB GE107 GE108)⟩)
)
·(
skip
refine box_step ?hg (N := 6) ?hd (cs := #[.int .i64 0, .slice none 0 0, .int .i64 0]) (t := 26) ?hr ?_; (case hd => rfl); (case hg => rfl); (case hr => first | (go_simp; done) | (go_simp; rfl))
intro gb122 hg w27 hbox hb
replace HO115 := am (Kd.R_below (rr HO115) hb)
have BK122 := am (hbox)
have GW122 := am (gw hg (rb2 HB GE107 GE108))
have GE122 := GW122
replace HB := am (below_step (rb2 HB GE107 GE108) hb)
have NB107_122 := am (nl hg (rk BK107))
have NB122_107 := am (ng hg (rk BK107))
replace BK107 := am (blk_below (rk BK107) hb)
have NB108_122 := am (nl hg (rk BK108))
have NB122_108 := am (ng hg (rk BK108))
replace BK108 := am (blk_below (rk BK108) hb)
clear hb hbox hg
refine hK.out _ _ (bc3 BK107) (fun hHeld => ?_)
clear hK K
refine norm_ (a' := _) (show Act.put _ (some 6) _ = _ from na) ?_
exact norm_ nz (hJ2_5_12 (v111, v114, gb122) _ ⟨hHeld, (rr HO115), (rk BK107), (rk BK108), (rk BK122), GW122.out, GE122.out, NB107_122.out, NB122_107.out, NB108_122.out, NB122_108.out, (rb3 HB GE107 GE108 GE122)⟩)
)
)
)
·(
skip
rintro ⟨v111, v117, gb122⟩ w28 ⟨hHeld, h0_, h1_, h2_, h3_, h4_, h5_, h6_, h7_, h8_, h9_, h10_, h11_⟩
(try dsimp only at hHeld h0_ h1_ h2_ h3_ h4_ h5_ h6_ h7_ h8_ h9_ h10_ h11_)
have HO112 := am h0_; have HO118 := am h1_; replace BK107 := am h2_; replace BK108 := am h3_; have BK122 := am h4_; have GW122 := am h5_; have GE122 := am h6_; have NB107_122 := am h7_; have NB122_107 := am h8_; have NB108_122 := am h9_; have NB122_108 := am h10_; replace HB := am h11_
clear h0_ h1_ h2_ h3_ h4_ h5_ h6_ h7_ h8_ h9_ h10_ h11_
refine norm_ (a' := _) nr ?_
refine one_ (i := 5) (N := some 21) (bm 14 5887) rfl rfl (one_of HT_.out (by kernel_rfl)) (by decide) (fun K hK => ?_)
refine Kd.R_append_rows_step Kd.string (w0 := w) w.heap.size (by rfl) (.tmp 18) (.tmp 20) 24 9 (.string ⟨#[]⟩) 16 rfl Try.underlying24 info9 rfl (by decide) (by omega) v111 y110 l0_1 _ _ _ (fun k_ => some k_ ≠ (v117 : Value).ownBlock) (fun _ => False) rfl rfl ?aO ?aR (fun _ _ h => h) (fun _ h => h.elim) ?aF ?aB ?aS ?aL ?_
(case aR => repeat (first | exact (Kd.C_below HR0_1.out HB.out) | (with_reducible refine Kd.C_alloc ?_ _) | (with_reducible refine Kd.C_drewN ?_ _) | (with_reducible refine Kd.C_drew ?_)))
(case aB => exact (rb3 HB GE107 GE108 GE122))
(case aF => exact (fun k_ hk => Kd.fresh' (Kd.R_lt (rr HO118)) k_ hk))
(case aO => exact (rr HO112))
(case aS => exact (below_size (rb3 HB GE107 GE108 GE122)))
(case aL => have := LMc17.out; omega)
intro v114 w29 ho hb hg hat
rw [← Ny113.out] at ho
replace BK107 := am (blk_grown (rk BK107) hg (Kd.R_ne HO112.out BK107.out (by decide)))
replace BK108 := am (blk_grown (rk BK108) hg (Kd.R_ne HO112.out BK108.out (by decide)))
replace HO118 := am (Kd.R_after (ok := (fun _ => True)) (by (with_reducible repeat (first | apply r1 | apply r2 | apply r3)); exact Kd.R_mono HO118.out (fun _ hk => ⟨trivial, hk⟩)) hg hat)
replace BK122 := am (blk_grown (rk BK122) hg (Kd.R_ne HO112.out BK122.out (by decide)))
replace HB := am (hb)
have HO115 := am (ho)
clear HO112
clear ho hb hg hat
refine hK.out _ _ (bc3 BK107) (fun hHeld => ?_)
clear hK K
refine norm_ (a' := _) (show Act.put _ (some 21) _ = _ from na) ?_
exact norm_ nz (hJ2_5_7_12 (v111, v114, v117, gb122) _ ⟨hHeld, (rr HO115), (rrm HO118), (rk BK107), (rk BK108), (rk BK122), GW122.out, GE122.out, NB107_122.out, NB122_107.out, NB108_122.out, NB122_108.out, (rb3 HB GE107 GE108 GE122)⟩)
)
)
·(
skip
rintro ⟨v111, v114, gb122⟩ w27 ⟨hHeld, h0_, h1_, h2_, h3_, h4_, h5_, h6_, h7_, h8_, h9_, h10_⟩
(try dsimp only at hHeld h0_ h1_ h2_ h3_ h4_ h5_ h6_ h7_ h8_ h9_ h10_)
have HO115 := am h0_; replace BK107 := am h1_; replace BK108 := am h2_; have BK122 := am h3_; have GW122 := am h4_; have GE122 := am h5_; have NB107_122 := am h6_; have NB122_107 := am h7_; have NB108_122 := am h8_; have NB122_108 := am h9_; replace HB := am h10_
clear h0_ h1_ h2_ h3_ h4_ h5_ h6_ h7_ h8_ h9_ h10_
refine norm_ (a' := _) nr ?_
refine one_ (i := 7) (N := some 23) (bm 14 5887) rfl rfl (one_of HT_.out (by kernel_rfl)) (by decide) (fun K hK => ?_)
refine Kd.R_lit_step Kd.string _ 9 ?hg (N := 23) ?hd (xs := ([a1] : List ByteArray)) (inner := [.string a1]) (ok := fun _ => True) (okp := fun _ => True) ?hr ?hp (fun _ hk => hk) trivial (Below.refl _ _) (Nat.le_refl _) (by simp) ?_; (case hd => rfl); (case hg => rfl); (case hr => first | (go_simp; done) | (go_simp; rfl)); (case hp => exact (Reps.one (show Kd.M Kd.string _ _ _ a1 [.string a1] from rfl) (Reps.none _ _)))
intro v117 w28 ho29 hb hg_ hnew_
clear hg_ hnew_
(first | rw [← Ny116.out] at ho29 | (simp only [Int.reduceToNat] at ho29; rw [← Ny116.out] at ho29))
have HO118 := am (Kd.R_lower (Kd.R_new' ho29 (Kd.R_lt (rr HO115))) (below_size (rb3 HB GE107 GE108 GE122)))
replace HO115 := am (Kd.R_elder' (rr HO115) (Kd.R_base ho29) hb)
replace BK107 := am (blk_below (rk BK107) hb)
replace BK108 := am (blk_below (rk BK108) hb)
replace BK122 := am (blk_below (rk BK122) hb)
replace HB := am (below_step (rb3 HB GE107 GE108 GE122) hb)
clear hb ho29
refine hK.out _ _ (bc3 BK107) (fun hHeld => ?_)
clear hK K
refine norm_ (a' := _) (show Act.put _ (some 23) _ = _ from na) ?_
exact norm_ nz (hJ2_5_7_12 (v111, v114, v117, gb122) _ ⟨hHeld, (rrm HO115), (rrm HO118), (rk BK107), (rk BK108), (rk BK122), GW122.out, GE122.out, NB107_122.out, NB122_107.out, NB108_122.out, NB122_108.out, (rb3 HB GE107 GE108 GE122)⟩)
)
)
·(
skip
rintro ⟨v111, v114, v117⟩ w28 ⟨hHeld, h0_, h1_, h2_, h3_, h4_⟩
(try dsimp only at hHeld h0_ h1_ h2_ h3_ h4_)
have HO115 := am h0_; have HO118 := am h1_; replace BK107 := am h2_; replace BK108 := am h3_; replace HB := am h4_
clear h0_ h1_ h2_ h3_ h4_
obtain ⟨Ao30, co30, eo30⟩ := Kd.R_slice HO118.out
(first | subst eo30 | (injection eo30 with f1_ f2_ f3_; have f4_ := f1_.symm; have f5_ := f3_.symm; clear f1_ f2_ f3_; subst f4_; subst f5_))
refine norm_ (a' := _) nr ?_
refine two_ (i := 8) (j := 12) (Ni := some 24) (Nj := some 6) (bm 14 2047) (bm 14 5887) rfl rfl rfl rfl (two_of HT_.out (by kernel_rfl)) (by decide) (by decide) (fun K hK => ?_) (fun K hK => ?_)
·(
skip
refine Kd.R_append_rows_step Kd.string (w0 := w) w.heap.size (by rfl) (.tmp 21) (.tmp 23) 24 9 (.string ⟨#[]⟩) 16 rfl Try.underlying24 info9 rfl (by decide) (by omega) v114 y113 y116 _ _ _ (fun k_ => some k_ ≠ (.slice Ao30 y116.length co30 : Value).ownBlock) (fun _ => False) rfl rfl ?aO ?aR (fun _ _ h => h) (fun _ h => h.elim) ?aF ?aB ?aS ?aL ?_
(case aR => repeat (first | exact (Kd.R_reads' HO118.out).2.2 | (with_reducible refine Kd.C_alloc ?_ _) | (with_reducible refine Kd.C_drewN ?_ _) | (with_reducible refine Kd.C_drew ?_)))
(case aB => exact (rb2 HB GE107 GE108))
(case aF => exact (fun k_ hk => Kd.fresh' (Kd.R_lt (rr HO118)) k_ hk))
(case aO => exact (rr HO115))
(case aS => exact (below_size (rb2 HB GE107 GE108)))
(case aL => have := LMc18.out; omega)
intro v120 w29 ho hb hg hat
rw [← Ny119.out] at ho
replace BK107 := am (blk_grown (rk BK107) hg (Kd.R_ne HO115.out BK107.out (by decide)))
replace BK108 := am (blk_grown (rk BK108) hg (Kd.R_ne HO115.out BK108.out (by decide)))
replace HO118 := am (Kd.R_after (ok := (fun _ => True)) (by (with_reducible repeat (first | apply r1 | apply r2 | apply r3)); exact Kd.R_mono HO118.out (fun _ hk => ⟨trivial, hk⟩)) hg hat)
replace HB := am (hb)
have HO121 := am (ho)
clear HO115
clear ho hb hg hat
obtain ⟨Ao31, co31, eo31⟩ := Kd.R_slice HO121.out
(first | subst eo31 | (injection eo31 with f1_ f2_ f3_; have f4_ := f1_.symm; have f5_ := f3_.symm; clear f1_ f2_ f3_; subst f4_; subst f5_))
refine hK.out _ _ (bc3 BK107) (fun hHeld => ?_)
clear hK K
refine norm_ (a' := _) (show Act.put _ (some 24) _ = _ from na) ?_
refine pu_ 11 27 (bm 14 4095) HT_.out ?_
exact norm_ nz (hJ2_5_7_8 (v111, v114, .slice Ao30 y116.length co30, .slice Ao31 y119.length co31) _ ⟨hHeld, (rrm HO118), (rr HO121), (rk BK107), (rk BK108), (rb2 HB GE107 GE108)⟩)
)
·(
skip
refine box_step ?hg (N := 6) ?hd (cs := #[.int .i64 0, .slice none 0 0, .int .i64 0]) (t := 26) ?hr ?_; (case hd => rfl); (case hg => rfl); (case hr => first | (go_simp; done) | (go_simp; rfl))
intro gb122 hg w29 hbox hb
replace HO115 := am (Kd.R_below (rr HO115) hb)
replace HO118 := am (Kd.R_below (rr HO118) hb)
have BK122 := am (hbox)
have GW122 := am (gw hg (rb2 HB GE107 GE108))
have GE122 := GW122
replace HB := am (below_step (rb2 HB GE107 GE108) hb)
have NB107_122 := am (nl hg (rk BK107))
have NB122_107 := am (ng hg (rk BK107))
replace BK107 := am (blk_below (rk BK107) hb)
have NB108_122 := am (nl hg (rk BK108))
have NB122_108 := am (ng hg (rk BK108))
replace BK108 := am (blk_below (rk BK108) hb)
clear hb hbox hg
refine hK.out _ _ (bc3 BK107) (fun hHeld => ?_)
clear hK K
refine norm_ (a' := _) (show Act.put _ (some 6) _ = _ from na) ?_
exact norm_ nz (hJ2_5_7_12 (v111, v114, .slice Ao30 y116.length co30, gb122) _ ⟨hHeld, (rr HO115), (rr HO118), (rk BK107), (rk BK108), (rk BK122), GW122.out, GE122.out, NB107_122.out, NB122_107.out, NB108_122.out, NB122_108.out, (rb3 HB GE107 GE108 GE122)⟩)
)
)
)
·(
skip
rintro ⟨v111, v114, v117, gb122⟩ w29 ⟨hHeld, h0_, h1_, h2_, h3_, h4_, h5_, h6_, h7_, h8_, h9_, h10_, h11_⟩
(try dsimp only at hHeld h0_ h1_ h2_ h3_ h4_ h5_ h6_ h7_ h8_ h9_ h10_ h11_)
have HO115 := am h0_; have HO118 := am h1_; replace BK107 := am h2_; replace BK108 := am h3_; have BK122 := am h4_; have GW122 := am h5_; have GE122 := am h6_; have NB107_122 := am h7_; have NB122_107 := am h8_; have NB108_122 := am h9_; have NB122_108 := am h10_; replace HB := am h11_
clear h0_ h1_ h2_ h3_ h4_ h5_ h6_ h7_ h8_ h9_ h10_ h11_
obtain ⟨Ao31, co31, eo31⟩ := Kd.R_slice HO118.out
(first | subst eo31 | (injection eo31 with f1_ f2_ f3_; have f4_ := f1_.symm; have f5_ := f3_.symm; clear f1_ f2_ f3_; subst f4_; subst f5_))
refine norm_ (a' := _) nr ?_
refine one_ (i := 8) (N := some 24) (bm 14 6143) rfl rfl (one_of HT_.out (by kernel_rfl)) (by decide) (fun K hK => ?_)
refine Kd.R_append_rows_step Kd.string (w0 := w) w.heap.size (by rfl) (.tmp 21) (.tmp 23) 24 9 (.string ⟨#[]⟩) 16 rfl Try.underlying24 info9 rfl (by decide) (by omega) v114 y113 y116 _ _ _ (fun k_ => some k_ ≠ (.slice Ao31 y116.length co31 : Value).ownBlock) (fun _ => False) rfl rfl ?aO ?aR (fun _ _ h => h) (fun _ h => h.elim) ?aF ?aB ?aS ?aL ?_
(case aR => repeat (first | exact (Kd.R_reads' HO118.out).2.2 | (with_reducible refine Kd.C_alloc ?_ _) | (with_reducible refine Kd.C_drewN ?_ _) | (with_reducible refine Kd.C_drew ?_)))
(case aB => exact (rb3 HB GE107 GE108 GE122))
(case aF => exact (fun k_ hk => Kd.fresh' (Kd.R_lt (rr HO118)) k_ hk))
(case aO => exact (rr HO115))
(case aS => exact (below_size (rb3 HB GE107 GE108 GE122)))
(case aL => have := LMc18.out; omega)
intro v120 w30 ho hb hg hat
rw [← Ny119.out] at ho
replace BK107 := am (blk_grown (rk BK107) hg (Kd.R_ne HO115.out BK107.out (by decide)))
replace BK108 := am (blk_grown (rk BK108) hg (Kd.R_ne HO115.out BK108.out (by decide)))
replace HO118 := am (Kd.R_after (ok := (fun _ => True)) (by (with_reducible repeat (first | apply r1 | apply r2 | apply r3)); exact Kd.R_mono HO118.out (fun _ hk => ⟨trivial, hk⟩)) hg hat)
replace BK122 := am (blk_grown (rk BK122) hg (Kd.R_ne HO115.out BK122.out (by decide)))
replace HB := am (hb)
have HO121 := am (ho)
clear HO115
clear ho hb hg hat
obtain ⟨Ao32, co32, eo32⟩ := Kd.R_slice HO121.out
(first | subst eo32 | (injection eo32 with f1_ f2_ f3_; have f4_ := f1_.symm; have f5_ := f3_.symm; clear f1_ f2_ f3_; subst f4_; subst f5_))
refine hK.out _ _ (bc3 BK107) (fun hHeld => ?_)
clear hK K
refine norm_ (a' := _) (show Act.put _ (some 24) _ = _ from na) ?_
refine pu_ 11 27 (bm 14 8191) HT_.out ?_
exact norm_ nz (hJ2_5_7_8_12 (v111, v114, .slice Ao31 y116.length co31, .slice Ao32 y119.length co32, gb122) _ ⟨hHeld, (rrm HO118), (rr HO121), (rk BK107), (rk BK108), (rk BK122), GW122.out, GE122.out, NB107_122.out, NB122_107.out, NB108_122.out, NB122_108.out, (rb3 HB GE107 GE108 GE122)⟩)
)
)
·(
skip
rintro ⟨v111, v114, v117, v120⟩ w31 ⟨hHeld, h0_, h1_, h2_, h3_, h4_⟩
(try dsimp only at hHeld h0_ h1_ h2_ h3_ h4_)
have HO118 := am h0_; have HO121 := am h1_; replace BK107 := am h2_; replace BK108 := am h3_; replace HB := am h4_
clear h0_ h1_ h2_ h3_ h4_
obtain ⟨Ao32, co32, eo32⟩ := Kd.R_slice HO121.out
(first | subst eo32 | (injection eo32 with f1_ f2_ f3_; have f4_ := f1_.symm; have f5_ := f3_.symm; clear f1_ f2_ f3_; subst f4_; subst f5_))
refine norm_ (a' := _) nr ?_
refine one_ (i := 12) (N := some 6) (bm 14 8191) rfl rfl (one_of HT_.out (by kernel_rfl)) (by decide) (fun K hK => ?_)
refine box_step ?hg (N := 6) ?hd (cs := #[.int .i64 0, .slice none 0 0, .int .i64 0]) (t := 26) ?hr ?_; (case hd => rfl); (case hg => rfl); (case hr => first | (go_simp; done) | (go_simp; rfl))
intro gb122 hg w33 hbox hb
replace HO118 := am (Kd.R_below (rr HO118) hb)
replace HO121 := am (Kd.R_below (rr HO121) hb)
have BK122 := am (hbox)
have GW122 := am (gw hg (rb2 HB GE107 GE108))
have GE122 := GW122
replace HB := am (below_step (rb2 HB GE107 GE108) hb)
have NB107_122 := am (nl hg (rk BK107))
have NB122_107 := am (ng hg (rk BK107))
replace BK107 := am (blk_below (rk BK107) hb)
have NB108_122 := am (nl hg (rk BK108))
have NB122_108 := am (ng hg (rk BK108))
replace BK108 := am (blk_below (rk BK108) hb)
clear hb hbox hg
refine hK.out _ _ (bc3 BK107) (fun hHeld => ?_)
clear hK K
refine norm_ (a' := _) (show Act.put _ (some 6) _ = _ from na) ?_
exact norm_ nz (hJ2_5_7_8_12 (v111, v114, v117, .slice Ao32 y119.length co32, gb122) _ ⟨hHeld, (rr HO118), (rr HO121), (rk BK107), (rk BK108), (rk BK122), GW122.out, GE122.out, NB107_122.out, NB122_107.out, NB108_122.out, NB122_108.out, (rb3 HB GE107 GE108 GE122)⟩)
)
)
rintro ⟨v111, v114, v117, v120, gb122⟩ w32 ⟨hHeld, h0_, h1_, h2_, h3_, h4_, h5_, h6_, h7_, h8_, h9_, h10_, h11_⟩
(try dsimp only at hHeld h0_ h1_ h2_ h3_ h4_ h5_ h6_ h7_ h8_ h9_ h10_ h11_)
have HO118 := am h0_; have HO121 := am h1_; replace BK107 := am h2_; replace BK108 := am h3_; have BK122 := am h4_; have GW122 := am h5_; have GE122 := am h6_; have NB107_122 := am h7_; have NB122_107 := am h8_; have NB108_122 := am h9_; have NB122_108 := am h10_; replace HB := am h11_
clear h0_ h1_ h2_ h3_ h4_ h5_ h6_ h7_ h8_ h9_ h10_ h11_
obtain ⟨Ao33, co33, eo33⟩ := Kd.R_slice HO121.out
(first | subst eo33 | (injection eo33 with f1_ f2_ f3_; have f4_ := f1_.symm; have f5_ := f3_.symm; clear f1_ f2_ f3_; subst f4_; subst f5_))
refine norm_ (a' := _) nr ?_
refine one_ (i := 13) (N := none) (bm 14 16383) rfl rfl (one_of HT_.out (by kernel_rfl)) (by decide) (fun K hK => ?_)
have hs34 : w32.cell? ⟨gb122, 0, none⟩ = some (.int .i64 0) := (blk_cell BK122.out 0).trans rfl
have hfs34 := blk_frozen BK122.out 0
have hns34_0 := NB107_122.out
have hns34_1 := NB108_122.out
have hms34_0 := NB122_107.out
have hms34_1 := NB122_108.out
have hs35 : w32.cell? ⟨gb122, 1, none⟩ = some (.slice none 0 0) := (blk_cell BK122.out 1).trans rfl
have hfs35 := blk_frozen BK122.out 1
have hns35_0 := NB107_122.out
have hns35_1 := NB108_122.out
have hms35_0 := NB122_107.out
have hms35_1 := NB122_108.out
have hs36 : w32.cell? ⟨gb122, 2, none⟩ = some (.int .i64 0) := (blk_cell BK122.out 2).trans rfl
have hfs36 := blk_frozen BK122.out 2
have hns36_0 := NB107_122.out
have hns36_1 := NB108_122.out
have hms36_0 := NB122_107.out
have hms36_1 := NB122_108.out
refine skip_ (w1 := ?_) (by rfl) rfl ?_ ?_
rotate_left
·(
go_simp
rfl
)
refine hK.out _ _ ⟨((cell_far (p := ⟨gb122, _, none⟩) NB107_122.out _).trans (((cell_far (p := ⟨gb122, _, none⟩) NB107_122.out _).trans (((cell_far (p := ⟨gb122, _, none⟩) NB107_122.out _).trans (hHeld.1)))))), ((cell_far (p := ⟨gb122, _, none⟩) NB107_122.out _).trans (((cell_far (p := ⟨gb122, _, none⟩) NB107_122.out _).trans (((cell_far (p := ⟨gb122, _, none⟩) NB107_122.out _).trans (hHeld.2.1)))))), ((cell_far (p := ⟨gb122, _, none⟩) NB107_122.out _).trans (((cell_far (p := ⟨gb122, _, none⟩) NB107_122.out _).trans (((cell_far (p := ⟨gb122, _, none⟩) NB107_122.out _).trans (hHeld.2.2))))))⟩ (fun hHeld => ?_)
clear hK K
refine done_ (done_of HT_.out (by kernel_rfl)) ?_
have n0_ : Aside0 (Kd.R Kd.string 9 (((w32.setCell ⟨gb122, 0, none⟩ (.int .i64 a0_0)).setCell ⟨gb122, 1, none⟩ (.slice Ao33 y119.length co33)).setCell ⟨gb122, 2, none⟩ (.int .i64 a0_2)) w.heap.size (fun k_ => some k_ ≠ (.slice Ao33 y119.length co33 : Value).ownBlock) v117 y116) := ⟨Rm3 HO118 BK122⟩
have n1_ : Aside0 (Kd.R Kd.string 9 (((w32.setCell ⟨gb122, 0, none⟩ (.int .i64 a0_0)).setCell ⟨gb122, 1, none⟩ (.slice Ao33 y119.length co33)).setCell ⟨gb122, 2, none⟩ (.int .i64 a0_2)) w.heap.size (fun k_ => some k_ ≠ (v117 : Value).ownBlock) (.slice Ao33 y119.length co33) y119) := ⟨Rm3 HO121 BK122⟩
have n2_ : Aside0 ((((w32.setCell ⟨gb122, 0, none⟩ (.int .i64 a0_0)).setCell ⟨gb122, 1, none⟩ (.slice Ao33 y119.length co33)).setCell ⟨gb122, 2, none⟩ (.int .i64 a0_2)).heap[gb107]? = some (.cells #[.int .i64 a0_0, .slice A0_1 l0_1.length c0_1, .int .i64 a0_2] 26 (0, 0))) := ⟨rf3 NB107_122 BK107⟩
have n3_ : Aside0 ((((w32.setCell ⟨gb122, 0, none⟩ (.int .i64 a0_0)).setCell ⟨gb122, 1, none⟩ (.slice Ao33 y119.length co33)).setCell ⟨gb122, 2, none⟩ (.int .i64 a0_2)).heap[gb108]? = some (.cells #[.int .i64 0, .slice none 0 0, .int .i64 0] 26 (0, 0))) := ⟨rf3 NB108_122 BK108⟩
have n4_ : Aside0 ((((w32.setCell ⟨gb122, 0, none⟩ (.int .i64 a0_0)).setCell ⟨gb122, 1, none⟩ (.slice Ao33 y119.length co33)).setCell ⟨gb122, 2, none⟩ (.int .i64 a0_2)).heap[gb122]? = some (.cells #[.int .i64 a0_0, .slice Ao33 y119.length co33, .int .i64 a0_2] 26 (0, 0))) := ⟨by (with_reducible repeat (first | apply k1 | apply k2 | apply k3)); refine blk_put (cs := #[.int .i64 a0_0, .slice Ao33 y119.length co33, .int .i64 0]) ?_ 2 _ rfl; (with_reducible repeat (first | apply k1 | apply k2 | apply k3)); refine blk_put (cs := #[.int .i64 a0_0, .slice none 0 0, .int .i64 0]) ?_ 1 _ rfl; (with_reducible repeat (first | apply k1 | apply k2 | apply k3)); refine blk_put (cs := #[.int .i64 0, .slice none 0 0, .int .i64 0]) ?_ 0 _ rfl; (with_reducible repeat (first | apply k1 | apply k2 | apply k3)); exact BK122.out⟩
have n5_ : Aside0 (Below w.heap.size w (((w32.setCell ⟨gb122, 0, none⟩ (.int .i64 a0_0)).setCell ⟨gb122, 1, none⟩ (.slice Ao33 y119.length co33)).setCell ⟨gb122, 2, none⟩ (.int .i64 a0_2))) := ⟨rb3 HB GE107 GE108 GE122⟩
(try clear HO118)
(try clear HO121)
(try clear BK107)
(try clear BK108)
(try clear BK122)
(try clear HB)
generalize (((w32.setCell ⟨gb122, 0, none⟩ (.int .i64 a0_0)).setCell ⟨gb122, 1, none⟩ (.slice Ao33 y119.length co33)).setCell ⟨gb122, 2, none⟩ (.int .i64 a0_2)) = w37 at n0_ n1_ n2_ n3_ n4_ n5_ ⊢
have HO118 := n0_
have HO121 := n1_
have BK107 := n2_
have BK108 := n3_
have BK122 := n4_
have HB := n5_
clear n0_ n1_ n2_ n3_ n4_ n5_
have hnb38 := NB122_107.out
have hnc38 := NB107_122.out
have hnb39 := NB122_108.out
have hnc39 := NB108_122.out
have hcz40_0 : w37.cell? ⟨gb122, 0, none⟩ = some (.int .i64 a0_0) := (blk_cell BK122.out 0).trans rfl
have hcz40_1 : w37.cell? ⟨gb122, 1, none⟩ = some (.slice Ao33 y119.length co33) := (blk_cell BK122.out 1).trans rfl
have hcz40_2 : w37.cell? ⟨gb122, 2, none⟩ = some (.int .i64 a0_2) := (blk_cell BK122.out 2).trans rfl
have hfz40_0 := blk_frozen BK122.out 0
have hfz40_1 := blk_frozen BK122.out 1
have hfz40_2 := blk_frozen BK122.out 2
have hnb41 := NB107_108.out
have hnc41 := NB108_107.out
have hcz42_0 : w37.cell? ⟨gb107, 0, none⟩ = some (.int .i64 a0_0) := (blk_cell BK107.out 0).trans rfl
have hcz42_1 : w37.cell? ⟨gb107, 1, none⟩ = some (.slice A0_1 l0_1.length c0_1) := (blk_cell BK107.out 1).trans rfl
have hcz42_2 : w37.cell? ⟨gb107, 2, none⟩ = some (.int .i64 a0_2) := (blk_cell BK107.out 2).trans rfl
have hfz42_0 := blk_frozen BK107.out 0
have hfz42_1 := blk_frozen BK107.out 1
have hfz42_2 := blk_frozen BK107.out 2
have q43 : (1 : Int) ≤ ((y119.length : Int) : Int) := dt_
obtain ⟨i043, hi043, _, hsz43, _⟩ := info_parts info9
have hcut43 := cut_from (P := Try.prog) 24 9 .i64 Try.underlying24 hi043 1 hsz43 Ao33 y119.length co33 1 (by omega) q43
have hr43 := Kd.Q_drop (k := (1 : Int).toNat) (Kd.Q_of_R HO121.out) (by omega)
obtain ⟨A43, hA43⟩ : ∃ A1, A1 = (if co33 = (1 : Int).toNat then Ao33 else (Ao33 : Option Addr).map (·.add ((1 : Int).toNat * 1))) := ⟨_, rfl⟩
obtain ⟨c43, hc43⟩ : ∃ c1, c1 = co33 - (1 : Int).toNat := ⟨_, rfl⟩
have hy43 : y123.length = y119.length - (1 : Int).toNat := (by rw [Ny123.out, List.length_drop])
rw [← Ny123.out] at hr43
rw [← hy43, ← hA43, ← hc43] at hcut43
replace hr43 : Kd.Q Kd.string 9 w37 w.heap.size (fun k_ => some k_ ≠ (v117 : Value).ownBlock) (.slice A43 y123.length c43) y123 := (by rw [hA43, hc43, hy43]; exact hr43)
have HE43 : Aside0 ((Value.slice A43 y123.length c43).ownBlock = (.slice Ao33 y119.length co33 : Value).ownBlock) := ⟨by rw [hA43]; split <;> (cases (Ao33 : Option Addr) <;> rfl)⟩
clear hy43 hi043 hsz43 HO121 hA43 hc43
have HO125 := am hr43
clear hr43
replace q43 := eq_true q43
have n_ := am (Kd.R_mono (ok' := fun k_ => some k_ ≠ (.slice A43 y123.length c43 : Value).ownBlock) HO118.out (fun k_ hk => (by rw [HE43.out]; exact hk)))
clear HO118
have HO118 := n_
clear n_
have hcz44_0 : w37.cell? ⟨gb108, 0, none⟩ = some (.int .i64 0) := (blk_cell BK108.out 0).trans rfl
have hcz44_1 : w37.cell? ⟨gb108, 1, none⟩ = some (.slice none 0 0) := (blk_cell BK108.out 1).trans rfl
have hcz44_2 : w37.cell? ⟨gb108, 2, none⟩ = some (.int .i64 0) := (blk_cell BK108.out 2).trans rfl
have hfz44_0 := blk_frozen BK108.out 0
have hfz44_1 := blk_frozen BK108.out 1
have hfz44_2 := blk_frozen BK108.out 2
try go_wp2
refine bodyPost_ret (results_ct rfl _ _ gb108 26 #[.int .i64 0, .slice none 0 0, .int .i64 0] (0, 0) _ rfl (by (with_reducible repeat (first | apply k1 | apply k2 | apply k3)); refine blk_put (cs := #[.int .i64 0, .slice none 0 0, .int .i64 0]) ?_ 2 _ rfl; (with_reducible repeat (first | apply k1 | apply k2 | apply k3)); refine blk_put (cs := #[.int .i64 0, .slice none 0 0, .int .i64 0]) ?_ 1 _ rfl; (with_reducible repeat (first | apply k1 | apply k2 | apply k3)); refine blk_put (cs := #[.int .i64 0, .slice none 0 0, .int .i64 0]) ?_ 0 _ rfl; (with_reducible repeat (first | apply k1 | apply k2 | apply k3)); refine blk_far ?_ NB108_122.out _; (with_reducible repeat (first | apply k1 | apply k2 | apply k3)); refine blk_far ?_ NB108_122.out _; (with_reducible repeat (first | apply k1 | apply k2 | apply k3)); exact BK108.out) Try.underlying26 rfl (by kernel_rfl)) rfl ?_
exact ⟨_, by first | rfl | (simp [errW_none, errW_some] <;> rfl) | (simp [*, errW_none, errW_some] <;> rfl), Kd.Q_of_R (by first | exact Kd.R_nil _ _ _ _ _ | exact Kd.N_nil _ _ _ _ _ | exact Kd.V_nil _ _ _ _ _ | exact Kd.Q_nil _ _ _ _ _ | exact Kd.S_nil _ _ _ _ _), rb3 HB GE107 GE108 GE122⟩
)
·(
rw [if_neg c21] at H
have c21b0 : decide (1000000 < (wrap64 (a0_2 + 1))) = false := decide_eq_false c21
clear c21
simp only [Option.some.injEq, Prod.mk.injEq] at H
obtain ⟨rfl, rfl, rfl, rfl⟩ := H
try go_wp2
replace BK107 := am (blk_drew BK107.out)
replace BK108 := am (blk_drew BK108.out)
replace HB := am (below_drew1 HB.out)
refine start_ (n := 14) (S := fun w' => w'.cell? ⟨gb107, 0, none⟩ = some (.int .i64 a0_0) ∧ w'.cell? ⟨gb107, 1, none⟩ = some (.slice A0_1 l0_1.length c0_1) ∧ w'.cell? ⟨gb107, 2, none⟩ = some (.int .i64 a0_2)) (ds := []) (bm 14 0) (by kernel_rfl) rfl rfl (bc3 BK107) (fun hHeld => ?_); refine with_tabW spec_Keep.tab3 spec_Keep.bits3 (fun HT_ HW_ => ?_)
generalize wc.drew = w45 at BK107 BK108 HB hHeld ⊢
refine pu_ 0 16 (bm 14 1) HT_.out ?_
refine pu_ 3 19 (bm 14 9) HT_.out ?_
refine pu_ 6 22 (bm 14 73) HT_.out ?_
refine pu_ 9 25 (bm 14 585) HT_.out ?_
refine take_ (i := 1) (N := some 17) (v := ?_) (a' := ?_) (bm 14 587) rfl rfl (take_ofW HT_.out HW_.out (by kernel_rfl)) (fun _ _ _ h => h) (Or.inl ⟨by rfl, ?_⟩) hHeld ?_ ?_
rotate_left
·(
rintro w' ⟨s0, s1, s2⟩
go_simp
with_reducible rfl
)
rotate_left
·(
simp only [Act.put, List.setIfInBounds_toArray, List.set_cons_zero, List.set_cons_succ, i64_w, i32_w]
rfl
)
refine take_ (i := 4) (N := some 20) (v := ?_) (a' := ?_) (bm 14 603) rfl rfl (take_ofW HT_.out HW_.out (by kernel_rfl)) (fun _ _ _ h => h) (Or.inl ⟨by rfl, ?_⟩) hHeld ?_ ?_
rotate_left
·(
rintro w' ⟨s0, s1, s2⟩
go_simp
with_reducible rfl
)
rotate_left
·(
simp only [Act.put, List.setIfInBounds_toArray, List.set_cons_zero, List.set_cons_succ, i64_w, i32_w]
rfl
)
refine take_ (i := 10) (N := some 26) (v := ?_) (a' := ?_) (bm 14 1627) rfl rfl (take_ofW HT_.out HW_.out (by kernel_rfl)) (fun _ _ _ h => h) (Or.inl ⟨by rfl, ?_⟩) hHeld ?_ ?_
rotate_left
·(
rintro w' ⟨s0, s1, s2⟩
go_simp
with_reducible rfl
)
rotate_left
·(
simp only [Act.put, List.setIfInBounds_toArray, List.set_cons_zero, List.set_cons_succ, i64_w, i32_w]
rfl
)
refine join_ (σ := Value × Value × Value × Value × Nat) 1 (bm 14 8191) (fun s_ => [(18, s_.1), (21, s_.2.1), (23, s_.2.2.1), (24, s_.2.2.2.1), (6, .pointer (some ⟨s_.2.2.2.2, 0, none⟩)), (27, .agg #[.int .i64 a0_0, s_.2.2.2.1, .int .i64 a0_2])]) (fun s_ w' => (w'.cell? ⟨gb107, 0, none⟩ = some (.int .i64 a0_0) ∧ w'.cell? ⟨gb107, 1, none⟩ = some (.slice A0_1 l0_1.length c0_1) ∧ w'.cell? ⟨gb107, 2, none⟩ = some (.int .i64 a0_2)) ∧ (Kd.R Kd.string 9 w' w.heap.size (fun k_ => some k_ ≠ (s_.2.2.2.1 : Value).ownBlock) s_.2.2.1 y116) ∧ (Kd.R Kd.string 9 w' w.heap.size (fun k_ => some k_ ≠ (s_.2.2.1 : Value).ownBlock) s_.2.2.2.1 y119) ∧ (w'.heap[gb107]? = some (.cells #[.int .i64 a0_0, .slice A0_1 l0_1.length c0_1, .int .i64 a0_2] 26 (0, 0))) ∧ (w'.heap[gb108]? = some (.cells #[.int .i64 0, .slice none 0 0, .int .i64 0] 26 (0, 0))) ∧ (w'.heap[s_.2.2.2.2]? = some (.cells #[.int .i64 0, .slice none 0 0, .int .i64 0] 26 (0, 0))) ∧ (w.heap.size ≤ s_.2.2.2.2) ∧ (w.heap.size ≤ s_.2.2.2.2) ∧ (gb107 ≠ s_.2.2.2.2) ∧ (s_.2.2.2.2 ≠ gb107) ∧ (gb108 ≠ s_.2.2.2.2) ∧ (s_.2.2.2.2 ≠ gb108) ∧ (Below w.heap.size w w')) ?_ ?_
rotate_left
·(
intro hJ2_5_7_8_12
refine join_ (σ := Value × Value × Value × Value) 2 (bm 14 4095) (fun s_ => [(18, s_.1), (21, s_.2.1), (23, s_.2.2.1), (24, s_.2.2.2), (27, .agg #[.int .i64 a0_0, s_.2.2.2, .int .i64 a0_2])]) (fun s_ w' => (w'.cell? ⟨gb107, 0, none⟩ = some (.int .i64 a0_0) ∧ w'.cell? ⟨gb107, 1, none⟩ = some (.slice A0_1 l0_1.length c0_1) ∧ w'.cell? ⟨gb107, 2, none⟩ = some (.int .i64 a0_2)) ∧ (Kd.R Kd.string 9 w' w.heap.size (fun k_ => some k_ ≠ (s_.2.2.2 : Value).ownBlock) s_.2.2.1 y116) ∧ (Kd.R Kd.string 9 w' w.heap.size (fun k_ => some k_ ≠ (s_.2.2.1 : Value).ownBlock) s_.2.2.2 y119) ∧ (w'.heap[gb107]? = some (.cells #[.int .i64 a0_0, .slice A0_1 l0_1.length c0_1, .int .i64 a0_2] 26 (0, 0))) ∧ (w'.heap[gb108]? = some (.cells #[.int .i64 0, .slice none 0 0, .int .i64 0] 26 (0, 0))) ∧ (Below w.heap.size w w')) ?_ ?_
rotate_left
·(
intro hJ2_5_7_8
refine join_ (σ := Value × Value × Value × Nat) 3 (bm 14 5887) (fun s_ => [(18, s_.1), (21, s_.2.1), (23, s_.2.2.1), (6, .pointer (some ⟨s_.2.2.2, 0, none⟩))]) (fun s_ w' => (w'.cell? ⟨gb107, 0, none⟩ = some (.int .i64 a0_0) ∧ w'.cell? ⟨gb107, 1, none⟩ = some (.slice A0_1 l0_1.length c0_1) ∧ w'.cell? ⟨gb107, 2, none⟩ = some (.int .i64 a0_2)) ∧ (Kd.R Kd.string 9 w' w.heap.size (fun k_ => some k_ ≠ (s_.2.2.1 : Value).ownBlock) s_.2.1 y113) ∧ (Kd.R Kd.string 9 w' w.heap.size (fun k_ => some k_ ≠ (s_.2.1 : Value).ownBlock) s_.2.2.1 y116) ∧ (w'.heap[gb107]? = some (.cells #[.int .i64 a0_0, .slice A0_1 l0_1.length c0_1, .int .i64 a0_2] 26 (0, 0))) ∧ (w'.heap[gb108]? = some (.cells #[.int .i64 0, .slice none 0 0, .int .i64 0] 26 (0, 0))) ∧ (w'.heap[s_.2.2.2]? = some (.cells #[.int .i64 0, .slice none 0 0, .int .i64 0] 26 (0, 0))) ∧ (w.heap.size ≤ s_.2.2.2) ∧ (w.heap.size ≤ s_.2.2.2) ∧ (gb107 ≠ s_.2.2.2) ∧ (s_.2.2.2 ≠ gb107) ∧ (gb108 ≠ s_.2.2.2) ∧ (s_.2.2.2 ≠ gb108) ∧ (Below w.heap.size w w')) ?_ ?_
rotate_left
·(
intro hJ2_5_7_12
refine join_ (σ := Value × Value × Value) 4 (bm 14 1791) (fun s_ => [(18, s_.1), (21, s_.2.1), (23, s_.2.2)]) (fun s_ w' => (w'.cell? ⟨gb107, 0, none⟩ = some (.int .i64 a0_0) ∧ w'.cell? ⟨gb107, 1, none⟩ = some (.slice A0_1 l0_1.length c0_1) ∧ w'.cell? ⟨gb107, 2, none⟩ = some (.int .i64 a0_2)) ∧ (Kd.R Kd.string 9 w' w.heap.size (fun k_ => some k_ ≠ (s_.2.2 : Value).ownBlock) s_.2.1 y113) ∧ (Kd.R Kd.string 9 w' w.heap.size (fun k_ => some k_ ≠ (s_.2.1 : Value).ownBlock) s_.2.2 y116) ∧ (w'.heap[gb107]? = some (.cells #[.int .i64 a0_0, .slice A0_1 l0_1.length c0_1, .int .i64 a0_2] 26 (0, 0))) ∧ (w'.heap[gb108]? = some (.cells #[.int .i64 0, .slice none 0 0, .int .i64 0] 26 (0, 0))) ∧ (Below w.heap.size w w')) ?_ ?_
rotate_left
·(
intro hJ2_5_7
refine join_ (σ := Value × Value × Nat) 4 (bm 14 5759) (fun s_ => [(18, s_.1), (21, s_.2.1), (6, .pointer (some ⟨s_.2.2, 0, none⟩))]) (fun s_ w' => (w'.cell? ⟨gb107, 0, none⟩ = some (.int .i64 a0_0) ∧ w'.cell? ⟨gb107, 1, none⟩ = some (.slice A0_1 l0_1.length c0_1) ∧ w'.cell? ⟨gb107, 2, none⟩ = some (.int .i64 a0_2)) ∧ (Kd.R Kd.string 9 w' w.heap.size (fun _ => True) s_.2.1 y113) ∧ (w'.heap[gb107]? = some (.cells #[.int .i64 a0_0, .slice A0_1 l0_1.length c0_1, .int .i64 a0_2] 26 (0, 0))) ∧ (w'.heap[gb108]? = some (.cells #[.int .i64 0, .slice none 0 0, .int .i64 0] 26 (0, 0))) ∧ (w'.heap[s_.2.2]? = some (.cells #[.int .i64 0, .slice none 0 0, .int .i64 0] 26 (0, 0))) ∧ (w.heap.size ≤ s_.2.2) ∧ (w.heap.size ≤ s_.2.2) ∧ (gb107 ≠ s_.2.2) ∧ (s_.2.2 ≠ gb107) ∧ (gb108 ≠ s_.2.2) ∧ (s_.2.2 ≠ gb108) ∧ (Below w.heap.size w w')) ?_ ?_
rotate_left
·(
intro hJ2_5_12
refine join_ (σ := Value × Value × Nat) 4 (bm 14 5855) (fun s_ => [(18, s_.1), (23, s_.2.1), (6, .pointer (some ⟨s_.2.2, 0, none⟩))]) (fun s_ w' => (w'.cell? ⟨gb107, 0, none⟩ = some (.int .i64 a0_0) ∧ w'.cell? ⟨gb107, 1, none⟩ = some (.slice A0_1 l0_1.length c0_1) ∧ w'.cell? ⟨gb107, 2, none⟩ = some (.int .i64 a0_2)) ∧ (Kd.R Kd.string 9 w' w.heap.size (fun k_ => some k_ ≠ (s_.2.1 : Value).ownBlock) s_.1 y110) ∧ (Kd.R Kd.string 9 w' w.heap.size (fun k_ => some k_ ≠ (s_.1 : Value).ownBlock) s_.2.1 y116) ∧ (w'.heap[gb107]? = some (.cells #[.int .i64 a0_0, .slice A0_1 l0_1.length c0_1, .int .i64 a0_2] 26 (0, 0))) ∧ (w'.heap[gb108]? = some (.cells #[.int .i64 0, .slice none 0 0, .int .i64 0] 26 (0, 0))) ∧ (w'.heap[s_.2.2]? = some (.cells #[.int .i64 0, .slice none 0 0, .int .i64 0] 26 (0, 0))) ∧ (w.heap.size ≤ s_.2.2) ∧ (w.heap.size ≤ s_.2.2) ∧ (gb107 ≠ s_.2.2) ∧ (s_.2.2 ≠ gb107) ∧ (gb108 ≠ s_.2.2) ∧ (s_.2.2 ≠ gb108) ∧ (Below w.heap.size w w')) ?_ ?_
rotate_left
·(
intro hJ2_7_12
refine join_ (σ := Value × Value) 5 (bm 14 1663) (fun s_ => [(18, s_.1), (21, s_.2)]) (fun s_ w' => (w'.cell? ⟨gb107, 0, none⟩ = some (.int .i64 a0_0) ∧ w'.cell? ⟨gb107, 1, none⟩ = some (.slice A0_1 l0_1.length c0_1) ∧ w'.cell? ⟨gb107, 2, none⟩ = some (.int .i64 a0_2)) ∧ (Kd.R Kd.string 9 w' w.heap.size (fun _ => True) s_.2 y113) ∧ (w'.heap[gb107]? = some (.cells #[.int .i64 a0_0, .slice A0_1 l0_1.length c0_1, .int .i64 a0_2] 26 (0, 0))) ∧ (w'.heap[gb108]? = some (.cells #[.int .i64 0, .slice none 0 0, .int .i64 0] 26 (0, 0))) ∧ (Below w.heap.size w w')) ?_ ?_
rotate_left
·(
intro hJ2_5
refine join_ (σ := Value × Value) 5 (bm 14 1759) (fun s_ => [(18, s_.1), (23, s_.2)]) (fun s_ w' => (w'.cell? ⟨gb107, 0, none⟩ = some (.int .i64 a0_0) ∧ w'.cell? ⟨gb107, 1, none⟩ = some (.slice A0_1 l0_1.length c0_1) ∧ w'.cell? ⟨gb107, 2, none⟩ = some (.int .i64 a0_2)) ∧ (Kd.R Kd.string 9 w' w.heap.size (fun k_ => some k_ ≠ (s_.2 : Value).ownBlock) s_.1 y110) ∧ (Kd.R Kd.string 9 w' w.heap.size (fun k_ => some k_ ≠ (s_.1 : Value).ownBlock) s_.2 y116) ∧ (w'.heap[gb107]? = some (.cells #[.int .i64 a0_0, .slice A0_1 l0_1.length c0_1, .int .i64 a0_2] 26 (0, 0))) ∧ (w'.heap[gb108]? = some (.cells #[.int .i64 0, .slice none 0 0, .int .i64 0] 26 (0, 0))) ∧ (Below w.heap.size w w')) ?_ ?_
rotate_left
·(
intro hJ2_7
refine join_ (σ := Value × Nat) 5 (bm 14 5727) (fun s_ => [(18, s_.1), (6, .pointer (some ⟨s_.2, 0, none⟩))]) (fun s_ w' => (w'.cell? ⟨gb107, 0, none⟩ = some (.int .i64 a0_0) ∧ w'.cell? ⟨gb107, 1, none⟩ = some (.slice A0_1 l0_1.length c0_1) ∧ w'.cell? ⟨gb107, 2, none⟩ = some (.int .i64 a0_2)) ∧ (Kd.R Kd.string 9 w' w.heap.size (fun _ => True) s_.1 y110) ∧ (w'.heap[gb107]? = some (.cells #[.int .i64 a0_0, .slice A0_1 l0_1.length c0_1, .int .i64 a0_2] 26 (0, 0))) ∧ (w'.heap[gb108]? = some (.cells #[.int .i64 0, .slice none 0 0, .int .i64 0] 26 (0, 0))) ∧ (w'.heap[s_.2]? = some (.cells #[.int .i64 0, .slice none 0 0, .int .i64 0] 26 (0, 0))) ∧ (w.heap.size ≤ s_.2) ∧ (w.heap.size ≤ s_.2) ∧ (gb107 ≠ s_.2) ∧ (s_.2 ≠ gb107) ∧ (gb108 ≠ s_.2) ∧ (s_.2 ≠ gb108) ∧ (Below w.heap.size w w')) ?_ ?_
rotate_left
·(
intro hJ2_12
refine join_ (σ := Value × Nat) 5 (bm 14 5851) (fun s_ => [(23, s_.1), (6, .pointer (some ⟨s_.2, 0, none⟩))]) (fun s_ w' => (w'.cell? ⟨gb107, 0, none⟩ = some (.int .i64 a0_0) ∧ w'.cell? ⟨gb107, 1, none⟩ = some (.slice A0_1 l0_1.length c0_1) ∧ w'.cell? ⟨gb107, 2, none⟩ = some (.int .i64 a0_2)) ∧ (Kd.R Kd.string 9 w' w.heap.size (fun _ => True) s_.1 y116) ∧ (w'.heap[gb107]? = some (.cells #[.int .i64 a0_0, .slice A0_1 l0_1.length c0_1, .int .i64 a0_2] 26 (0, 0))) ∧ (w'.heap[gb108]? = some (.cells #[.int .i64 0, .slice none 0 0, .int .i64 0] 26 (0, 0))) ∧ (w'.heap[s_.2]? = some (.cells #[.int .i64 0, .slice none 0 0, .int .i64 0] 26 (0, 0))) ∧ (w.heap.size ≤ s_.2) ∧ (w.heap.size ≤ s_.2) ∧ (gb107 ≠ s_.2) ∧ (s_.2 ≠ gb107) ∧ (gb108 ≠ s_.2) ∧ (s_.2 ≠ gb108) ∧ (Below w.heap.size w w')) ?_ ?_
rotate_left
·(
intro hJ7_12
refine join_ (σ := Value) 6 (bm 14 1631) (fun s_ => [(18, s_)]) (fun s_ w' => (w'.cell? ⟨gb107, 0, none⟩ = some (.int .i64 a0_0) ∧ w'.cell? ⟨gb107, 1, none⟩ = some (.slice A0_1 l0_1.length c0_1) ∧ w'.cell? ⟨gb107, 2, none⟩ = some (.int .i64 a0_2)) ∧ (Kd.R Kd.string 9 w' w.heap.size (fun _ => True) s_ y110) ∧ (w'.heap[gb107]? = some (.cells #[.int .i64 a0_0, .slice A0_1 l0_1.length c0_1, .int .i64 a0_2] 26 (0, 0))) ∧ (w'.heap[gb108]? = some (.cells #[.int .i64 0, .slice none 0 0, .int .i64 0] 26 (0, 0))) ∧ (Below w.heap.size w w')) ?_ ?_
rotate_left
·(
intro hJ2
refine join_ (σ := Value) 6 (bm 14 1755) (fun s_ => [(23, s_)]) (fun s_ w' => (w'.cell? ⟨gb107, 0, none⟩ = some (.int .i64 a0_0) ∧ w'.cell? ⟨gb107, 1, none⟩ = some (.slice A0_1 l0_1.length c0_1) ∧ w'.cell? ⟨gb107, 2, none⟩ = some (.int .i64 a0_2)) ∧ (Kd.R Kd.string 9 w' w.heap.size (fun _ => True) s_ y116) ∧ (w'.heap[gb107]? = some (.cells #[.int .i64 a0_0, .slice A0_1 l0_1.length c0_1, .int .i64 a0_2] 26 (0, 0))) ∧ (w'.heap[gb108]? = some (.cells #[.int .i64 0, .slice none 0 0, .int .i64 0] 26 (0, 0))) ∧ (Below w.heap.size w w')) ?_ ?_
rotate_left
·(
intro hJ7
refine join_ (σ := Nat) 6 (bm 14 5723) (fun s_ => [(6, .pointer (some ⟨s_, 0, none⟩))]) (fun s_ w' => (w'.cell? ⟨gb107, 0, none⟩ = some (.int .i64 a0_0) ∧ w'.cell? ⟨gb107, 1, none⟩ = some (.slice A0_1 l0_1.length c0_1) ∧ w'.cell? ⟨gb107, 2, none⟩ = some (.int .i64 a0_2)) ∧ (w'.heap[gb107]? = some (.cells #[.int .i64 a0_0, .slice A0_1 l0_1.length c0_1, .int .i64 a0_2] 26 (0, 0))) ∧ (w'.heap[gb108]? = some (.cells #[.int .i64 0, .slice none 0 0, .int .i64 0] 26 (0, 0))) ∧ (w'.heap[s_]? = some (.cells #[.int .i64 0, .slice none 0 0, .int .i64 0] 26 (0, 0))) ∧ (w.heap.size ≤ s_) ∧ (w.heap.size ≤ s_) ∧ (gb107 ≠ s_) ∧ (s_ ≠ gb107) ∧ (gb108 ≠ s_) ∧ (s_ ≠ gb108) ∧ (Below w.heap.size w w')) ?_ ?_
rotate_left
·(
intro hJ12
refine three_ (i := 2) (j := 7) (k := 12) (Ni := some 18) (Nj := some 23) (Nk := some 6) (bm 14 1631) (bm 14 1755) (bm 14 5723) rfl rfl rfl rfl rfl rfl (three_of HT_.out (by kernel_rfl)) (by decide) (by decide) (by decide) (fun K hK => ?_) (fun K hK => ?_) (fun K hK => ?_)
·(
skip
refine Kd.R_lit_step Kd.string _ 9 ?hg (N := 18) ?hd (xs := ([] : List ByteArray)) (inner := []) (ok := fun _ => True) (okp := fun _ => True) ?hr ?hp (fun _ hk => hk) trivial (Below.refl _ _) (Nat.le_refl _) (by simp) ?_; (case hd => rfl); (case hg => rfl); (case hr => first | (go_simp; done) | (go_simp; rfl)); (case hp => exact (Reps.none _ _))
intro v111 w46 ho47 hb hg_ hnew_
clear hg_ hnew_
(first | rw [← Ny110.out] at ho47 | (simp only [Int.reduceToNat] at ho47; rw [← Ny110.out] at ho47))
have HO112 := am (Kd.R_lower ho47 (below_size (rb2 HB GE107 GE108)))
replace BK107 := am (blk_below (rk BK107) hb)
replace BK108 := am (blk_below (rk BK108) hb)
replace HB := am (below_step (rb2 HB GE107 GE108) hb)
clear hb ho47
refine hK.out _ _ (bc3 BK107) (fun hHeld => ?_)
clear hK K
refine norm_ (a' := _) (show Act.put _ (some 18) _ = _ from na) ?_
exact norm_ nz (hJ2 (v111) _ ⟨hHeld, (rr HO112), (rk BK107), (rk BK108), (rb2 HB GE107 GE108)⟩)
)
·(
skip
refine Kd.R_lit_step Kd.string _ 9 ?hg (N := 23) ?hd (xs := ([a1] : List ByteArray)) (inner := [.string a1]) (ok := fun _ => True) (okp := fun _ => True) ?hr ?hp (fun _ hk => hk) trivial (Below.refl _ _) (Nat.le_refl _) (by simp) ?_; (case hd => rfl); (case hg => rfl); (case hr => first | (go_simp; done) | (go_simp; rfl)); (case hp => exact (Reps.one (show Kd.M Kd.string _ _ _ a1 [.string a1] from rfl) (Reps.none _ _)))
intro v117 w46 ho47 hb hg_ hnew_
clear hg_ hnew_
(first | rw [← Ny116.out] at ho47 | (simp only [Int.reduceToNat] at ho47; rw [← Ny116.out] at ho47))
have HO118 := am (Kd.R_lower ho47 (below_size (rb2 HB GE107 GE108)))
replace BK107 := am (blk_below (rk BK107) hb)
replace BK108 := am (blk_below (rk BK108) hb)
replace HB := am (below_step (rb2 HB GE107 GE108) hb)
clear hb ho47
refine hK.out _ _ (bc3 BK107) (fun hHeld => ?_)
clear hK K
refine norm_ (a' := _) (show Act.put _ (some 23) _ = _ from na) ?_
exact norm_ nz (hJ7 (v117) _ ⟨hHeld, (rr HO118), (rk BK107), (rk BK108), (rb2 HB GE107 GE108)⟩)
)
·(
skip
refine box_step ?hg (N := 6) ?hd (cs := #[.int .i64 0, .slice none 0 0, .int .i64 0]) (t := 26) ?hr ?_; (case hd => rfl); (case hg => rfl); (case hr => first | (go_simp; done) | (go_simp; rfl))
intro gb122 hg w46 hbox hb
have BK122 := am (hbox)
have GW122 := am (gw hg (rb2 HB GE107 GE108))
have GE122 := GW122
replace HB := am (below_step (rb2 HB GE107 GE108) hb)
have NB107_122 := am (nl hg (rk BK107))
have NB122_107 := am (ng hg (rk BK107))
replace BK107 := am (blk_below (rk BK107) hb)
have NB108_122 := am (nl hg (rk BK108))
have NB122_108 := am (ng hg (rk BK108))
replace BK108 := am (blk_below (rk BK108) hb)
clear hb hbox hg
refine hK.out _ _ (bc3 BK107) (fun hHeld => ?_)
clear hK K
refine norm_ (a' := _) (show Act.put _ (some 6) _ = _ from na) ?_
exact norm_ nz (hJ12 (gb122) _ ⟨hHeld, (rk BK107), (rk BK108), (rk BK122), GW122.out, GE122.out, NB107_122.out, NB122_107.out, NB108_122.out, NB122_108.out, (rb3 HB GE107 GE108 GE122)⟩)
)
)
·(
skip
rintro gb122 w47 ⟨hHeld, h0_, h1_, h2_, h3_, h4_, h5_, h6_, h7_, h8_, h9_⟩
(try dsimp only at hHeld h0_ h1_ h2_ h3_ h4_ h5_ h6_ h7_ h8_ h9_)
replace BK107 := am h0_; replace BK108 := am h1_; have BK122 := am h2_; have GW122 := am h3_; have GE122 := am h4_; have NB107_122 := am h5_; have NB122_107 := am h6_; have NB108_122 := am h7_; have NB122_108 := am h8_; replace HB := am h9_
clear h0_ h1_ h2_ h3_ h4_ h5_ h6_ h7_ h8_ h9_
refine norm_ (a' := _) nr ?_
refine two_ (i := 2) (j := 7) (Ni := some 18) (Nj := some 23) (bm 14 5727) (bm 14 5851) rfl rfl rfl rfl (two_of HT_.out (by kernel_rfl)) (by decide) (by decide) (fun K hK => ?_) (fun K hK => ?_)
·(
skip
refine Kd.R_lit_step Kd.string _ 9 ?hg (N := 18) ?hd (xs := ([] : List ByteArray)) (inner := []) (ok := fun _ => True) (okp := fun _ => True) ?hr ?hp (fun _ hk => hk) trivial (Below.refl _ _) (Nat.le_refl _) (by simp) ?_; (case hd => rfl); (case hg => rfl); (case hr => first | (go_simp; done) | (go_simp; rfl)); (case hp => exact (Reps.none _ _))
intro v111 w48 ho49 hb hg_ hnew_
clear hg_ hnew_
(first | rw [← Ny110.out] at ho49 | (simp only [Int.reduceToNat] at ho49; rw [← Ny110.out] at ho49))
have HO112 := am (Kd.R_lower ho49 (below_size (rb3 HB GE107 GE108 GE122)))
replace BK107 := am (blk_below (rk BK107) hb)
replace BK108 := am (blk_below (rk BK108) hb)
replace BK122 := am (blk_below (rk BK122) hb)
replace HB := am (below_step (rb3 HB GE107 GE108 GE122) hb)
clear hb ho49
refine hK.out _ _ (bc3 BK107) (fun hHeld => ?_)
clear hK K
refine norm_ (a' := _) (show Act.put _ (some 18) _ = _ from na) ?_
exact norm_ nz (hJ2_12 (v111, gb122) _ ⟨hHeld, (rr HO112), (rk BK107), (rk BK108), (rk BK122), GW122.out, GE122.out, NB107_122.out, NB122_107.out, NB108_122.out, NB122_108.out, (rb3 HB GE107 GE108 GE122)⟩)
)
·(
skip
refine Kd.R_lit_step Kd.string _ 9 ?hg (N := 23) ?hd (xs := ([a1] : List ByteArray)) (inner := [.string a1]) (ok := fun _ => True) (okp := fun _ => True) ?hr ?hp (fun _ hk => hk) trivial (Below.refl _ _) (Nat.le_refl _) (by simp) ?_; (case hd => rfl); (case hg => rfl); (case hr => first | (go_simp; done) | (go_simp; rfl)); (case hp => exact (Reps.one (show Kd.M Kd.string _ _ _ a1 [.string a1] from rfl) (Reps.none _ _)))
intro v117 w48 ho49 hb hg_ hnew_
clear hg_ hnew_
(first | rw [← Ny116.out] at ho49 | (simp only [Int.reduceToNat] at ho49; rw [← Ny116.out] at ho49))
have HO118 := am (Kd.R_lower ho49 (below_size (rb3 HB GE107 GE108 GE122)))
replace BK107 := am (blk_below (rk BK107) hb)
replace BK108 := am (blk_below (rk BK108) hb)
replace BK122 := am (blk_below (rk BK122) hb)
replace HB := am (below_step (rb3 HB GE107 GE108 GE122) hb)
clear hb ho49
refine hK.out _ _ (bc3 BK107) (fun hHeld => ?_)
clear hK K
refine norm_ (a' := _) (show Act.put _ (some 23) _ = _ from na) ?_
exact norm_ nz (hJ7_12 (v117, gb122) _ ⟨hHeld, (rr HO118), (rk BK107), (rk BK108), (rk BK122), GW122.out, GE122.out, NB107_122.out, NB122_107.out, NB108_122.out, NB122_108.out, (rb3 HB GE107 GE108 GE122)⟩)
)
)
)
·(
skip
rintro v117 w48 ⟨hHeld, h0_, h1_, h2_, h3_⟩
(try dsimp only at hHeld h0_ h1_ h2_ h3_)
have HO118 := am h0_; replace BK107 := am h1_; replace BK108 := am h2_; replace HB := am h3_
clear h0_ h1_ h2_ h3_
refine norm_ (a' := _) nr ?_
refine two_ (i := 2) (j := 12) (Ni := some 18) (Nj := some 6) (bm 14 1759) (bm 14 5851) rfl rfl rfl rfl (two_of HT_.out (by kernel_rfl)) (by decide) (by decide) (fun K hK => ?_) (fun K hK => ?_)
·(
skip
refine Kd.R_lit_step Kd.string _ 9 ?hg (N := 18) ?hd (xs := ([] : List ByteArray)) (inner := []) (ok := fun _ => True) (okp := fun _ => True) ?hr ?hp (fun _ hk => hk) trivial (Below.refl _ _) (Nat.le_refl _) (by simp) ?_; (case hd => rfl); (case hg => rfl); (case hr => first | (go_simp; done) | (go_simp; rfl)); (case hp => exact (Reps.none _ _))
intro v111 w49 ho50 hb hg_ hnew_
clear hg_ hnew_
(first | rw [← Ny110.out] at ho50 | (simp only [Int.reduceToNat] at ho50; rw [← Ny110.out] at ho50))
have HO112 := am (Kd.R_lower (Kd.R_new' ho50 (Kd.R_lt (rr HO118))) (below_size (rb2 HB GE107 GE108)))
replace HO118 := am (Kd.R_elder' (rr HO118) (Kd.R_base ho50) hb)
replace BK107 := am (blk_below (rk BK107) hb)
replace BK108 := am (blk_below (rk BK108) hb)
replace HB := am (below_step (rb2 HB GE107 GE108) hb)
clear hb ho50
refine hK.out _ _ (bc3 BK107) (fun hHeld => ?_)
clear hK K
refine norm_ (a' := _) (show Act.put _ (some 18) _ = _ from na) ?_
exact norm_ nz (hJ2_7 (v111, v117) _ ⟨hHeld, (rrm HO112), (rrm HO118), (rk BK107), (rk BK108), (rb2 HB GE107 GE108)⟩)
)
·(
skip
refine box_step ?hg (N := 6) ?hd (cs := #[.int .i64 0, .slice none 0 0, .int .i64 0]) (t := 26) ?hr ?_; (case hd => rfl); (case hg => rfl); (case hr => first | (go_simp; done) | (go_simp; rfl))
intro gb122 hg w49 hbox hb
replace HO118 := am (Kd.R_below (rr HO118) hb)
have BK122 := am (hbox)
have GW122 := am (gw hg (rb2 HB GE107 GE108))
have GE122 := GW122
replace HB := am (below_step (rb2 HB GE107 GE108) hb)
have NB107_122 := am (nl hg (rk BK107))
have NB122_107 := am (ng hg (rk BK107))
replace BK107 := am (blk_below (rk BK107) hb)
have NB108_122 := am (nl hg (rk BK108))
have NB122_108 := am (ng hg (rk BK108))
replace BK108 := am (blk_below (rk BK108) hb)
clear hb hbox hg
refine hK.out _ _ (bc3 BK107) (fun hHeld => ?_)
clear hK K
refine norm_ (a' := _) (show Act.put _ (some 6) _ = _ from na) ?_
exact norm_ nz (hJ7_12 (v117, gb122) _ ⟨hHeld, (rr HO118), (rk BK107), (rk BK108), (rk BK122), GW122.out, GE122.out, NB107_122.out, NB122_107.out, NB108_122.out, NB122_108.out, (rb3 HB GE107 GE108 GE122)⟩)
)
)
)
·(
skip
rintro v111 w48 ⟨hHeld, h0_, h1_, h2_, h3_⟩
(try dsimp only at hHeld h0_ h1_ h2_ h3_)
have HO112 := am h0_; replace BK107 := am h1_; replace BK108 := am h2_; replace HB := am h3_
clear h0_ h1_ h2_ h3_
refine norm_ (a' := _) nr ?_
refine three_ (i := 5) (j := 7) (k := 12) (Ni := some 21) (Nj := some 23) (Nk := some 6) (bm 14 1663) (bm 14 1759) (bm 14 5727) rfl rfl rfl rfl rfl rfl (three_of HT_.out (by kernel_rfl)) (by decide) (by decide) (by decide) (fun K hK => ?_) (fun K hK => ?_) (fun K hK => ?_)
·(
skip
refine Kd.R_append_rows_step Kd.string (w0 := w) w.heap.size (by rfl) (.tmp 18) (.tmp 20) 24 9 (.string ⟨#[]⟩) 16 rfl Try.underlying24 info9 rfl (by decide) (by omega) v111 y110 l0_1 _ _ _ (fun _ => True) (fun _ => False) rfl rfl ?aO ?aR (fun _ _ h => h) (fun _ h => h.elim) ?aF ?aB ?aS ?aL ?_
(case aR => repeat (first | exact (Kd.C_below HR0_1.out HB.out) | (with_reducible refine Kd.C_alloc ?_ _) | (with_reducible refine Kd.C_drewN ?_ _) | (with_reducible refine Kd.C_drew ?_)))
(case aB => exact (rb2 HB GE107 GE108))
(case aF => exact (fun _ _ => trivial))
(case aO => exact (rr HO112))
(case aS => exact (below_size (rb2 HB GE107 GE108)))
(case aL => have := LMc17.out; omega)
intro v114 w49 ho hb hg hat
rw [← Ny113.out] at ho
replace BK107 := am (blk_grown (rk BK107) hg (Kd.R_ne HO112.out BK107.out (by decide)))
replace BK108 := am (blk_grown (rk BK108) hg (Kd.R_ne HO112.out BK108.out (by decide)))
replace HB := am (hb)
have HO115 := am (ho)
clear HO112
clear ho hb hg hat
refine hK.out _ _ (bc3 BK107) (fun hHeld => ?_)
clear hK K
refine norm_ (a' := _) (show Act.put _ (some 21) _ = _ from na) ?_
exact norm_ nz (hJ2_5 (v111, v114) _ ⟨hHeld, (rr HO115), (rk BK107), (rk BK108), (rb2 HB GE107 GE108)⟩)
)
·(
skip
refine Kd.R_lit_step Kd.string _ 9 ?hg (N := 23) ?hd (xs := ([a1] : List ByteArray)) (inner := [.string a1]) (ok := fun _ => True) (okp := fun _ => True) ?hr ?hp (fun _ hk => hk) trivial (Below.refl _ _) (Nat.le_refl _) (by simp) ?_; (case hd => rfl); (case hg => rfl); (case hr => first | (go_simp; done) | (go_simp; rfl)); (case hp => exact (Reps.one (show Kd.M Kd.string _ _ _ a1 [.string a1] from rfl) (Reps.none _ _)))
intro v117 w49 ho50 hb hg_ hnew_
clear hg_ hnew_
(first | rw [← Ny116.out] at ho50 | (simp only [Int.reduceToNat] at ho50; rw [← Ny116.out] at ho50))
have HO118 := am (Kd.R_lower (Kd.R_new' ho50 (Kd.R_lt (rr HO112))) (below_size (rb2 HB GE107 GE108)))
replace HO112 := am (Kd.R_elder' (rr HO112) (Kd.R_base ho50) hb)
replace BK107 := am (blk_below (rk BK107) hb)
replace BK108 := am (blk_below (rk BK108) hb)
replace HB := am (below_step (rb2 HB GE107 GE108) hb)
clear hb ho50
refine hK.out _ _ (bc3 BK107) (fun hHeld => ?_)
clear hK K
refine norm_ (a' := _) (show Act.put _ (some 23) _ = _ from na) ?_
exact norm_ nz (hJ2_7 (v111, v117) _ ⟨hHeld, (rrm HO112), (rrm HO118), (rk BK107), (rk BK108), (rb2 HB GE107 GE108)⟩)
)
·(
skip
refine box_step ?hg (N := 6) ?hd (cs := #[.int .i64 0, .slice none 0 0, .int .i64 0]) (t := 26) ?hr ?_; (case hd => rfl); (case hg => rfl); (case hr => first | (go_simp; done) | (go_simp; rfl))
intro gb122 hg w49 hbox hb
replace HO112 := am (Kd.R_below (rr HO112) hb)
have BK122 := am (hbox)
have GW122 := am (gw hg (rb2 HB GE107 GE108))
have GE122 := GW122
replace HB := am (below_step (rb2 HB GE107 GE108) hb)
have NB107_122 := am (nl hg (rk BK107))
have NB122_107 := am (ng hg (rk BK107))
replace BK107 := am (blk_below (rk BK107) hb)
have NB108_122 := am (nl hg (rk BK108))
have NB122_108 := am (ng hg (rk BK108))
replace BK108 := am (blk_below (rk BK108) hb)
clear hb hbox hg
refine hK.out _ _ (bc3 BK107) (fun hHeld => ?_)
clear hK K
refine norm_ (a' := _) (show Act.put _ (some 6) _ = _ from na) ?_
exact norm_ nz (hJ2_12 (v111, gb122) _ ⟨hHeld, (rr HO112), (rk BK107), (rk BK108), (rk BK122), GW122.out, GE122.out, NB107_122.out, NB122_107.out, NB108_122.out, NB122_108.out, (rb3 HB GE107 GE108 GE122)⟩)
)
)
)
·(
skip
rintro ⟨v117, gb122⟩ w49 ⟨hHeld, h0_, h1_, h2_, h3_, h4_, h5_, h6_, h7_, h8_, h9_, h10_⟩
(try dsimp only at hHeld h0_ h1_ h2_ h3_ h4_ h5_ h6_ h7_ h8_ h9_ h10_)
have HO118 := am h0_; replace BK107 := am h1_; replace BK108 := am h2_; have BK122 := am h3_; have GW122 := am h4_; have GE122 := am h5_; have NB107_122 := am h6_; have NB122_107 := am h7_; have NB108_122 := am h8_; have NB122_108 := am h9_; replace HB := am h10_
clear h0_ h1_ h2_ h3_ h4_ h5_ h6_ h7_ h8_ h9_ h10_
refine norm_ (a' := _) nr ?_
refine one_ (i := 2) (N := some 18) (bm 14 5855) rfl rfl (one_of HT_.out (by kernel_rfl)) (by decide) (fun K hK => ?_)
refine Kd.R_lit_step Kd.string _ 9 ?hg (N := 18) ?hd (xs := ([] : List ByteArray)) (inner := []) (ok := fun _ => True) (okp := fun _ => True) ?hr ?hp (fun _ hk => hk) trivial (Below.refl _ _) (Nat.le_refl _) (by simp) ?_; (case hd => rfl); (case hg => rfl); (case hr => first | (go_simp; done) | (go_simp; rfl)); (case hp => exact (Reps.none _ _))
intro v111 w50 ho51 hb hg_ hnew_
clear hg_ hnew_
(first | rw [← Ny110.out] at ho51 | (simp only [Int.reduceToNat] at ho51; rw [← Ny110.out] at ho51))
have HO112 := am (Kd.R_lower (Kd.R_new' ho51 (Kd.R_lt (rr HO118))) (below_size (rb3 HB GE107 GE108 GE122)))
replace HO118 := am (Kd.R_elder' (rr HO118) (Kd.R_base ho51) hb)
replace BK107 := am (blk_below (rk BK107) hb)
replace BK108 := am (blk_below (rk BK108) hb)
replace BK122 := am (blk_below (rk BK122) hb)
replace HB := am (below_step (rb3 HB GE107 GE108 GE122) hb)
clear hb ho51
refine hK.out _ _ (bc3 BK107) (fun hHeld => ?_)
clear hK K
refine norm_ (a' := _) (show Act.put _ (some 18) _ = _ from na) ?_
exact norm_ nz (hJ2_7_12 (v111, v117, gb122) _ ⟨hHeld, (rrm HO112), (rrm HO118), (rk BK107), (rk BK108), (rk BK122), GW122.out, GE122.out, NB107_122.out, NB122_107.out, NB108_122.out, NB122_108.out, (rb3 HB GE107 GE108 GE122)⟩)
)
)
·(
skip
rintro ⟨v111, gb122⟩ w49 ⟨hHeld, h0_, h1_, h2_, h3_, h4_, h5_, h6_, h7_, h8_, h9_, h10_⟩
(try dsimp only at hHeld h0_ h1_ h2_ h3_ h4_ h5_ h6_ h7_ h8_ h9_ h10_)
have HO112 := am h0_; replace BK107 := am h1_; replace BK108 := am h2_; have BK122 := am h3_; have GW122 := am h4_; have GE122 := am h5_; have NB107_122 := am h6_; have NB122_107 := am h7_; have NB108_122 := am h8_; have NB122_108 := am h9_; replace HB := am h10_
clear h0_ h1_ h2_ h3_ h4_ h5_ h6_ h7_ h8_ h9_ h10_
refine norm_ (a' := _) nr ?_
refine two_ (i := 5) (j := 7) (Ni := some 21) (Nj := some 23) (bm 14 5759) (bm 14 5855) rfl rfl rfl rfl (two_of HT_.out (by kernel_rfl)) (by decide) (by decide) (fun K hK => ?_) (fun K hK => ?_)
·(
skip
refine Kd.R_append_rows_step Kd.string (w0 := w) w.heap.size (by rfl) (.tmp 18) (.tmp 20) 24 9 (.string ⟨#[]⟩) 16 rfl Try.underlying24 info9 rfl (by decide) (by omega) v111 y110 l0_1 _ _ _ (fun _ => True) (fun _ => False) rfl rfl ?aO ?aR (fun _ _ h => h) (fun _ h => h.elim) ?aF ?aB ?aS ?aL ?_
(case aR => repeat (first | exact (Kd.C_below HR0_1.out HB.out) | (with_reducible refine Kd.C_alloc ?_ _) | (with_reducible refine Kd.C_drewN ?_ _) | (with_reducible refine Kd.C_drew ?_)))
(case aB => exact (rb3 HB GE107 GE108 GE122))
(case aF => exact (fun _ _ => trivial))
(case aO => exact (rr HO112))
(case aS => exact (below_size (rb3 HB GE107 GE108 GE122)))
(case aL => have := LMc17.out; omega)
intro v114 w50 ho hb hg hat
rw [← Ny113.out] at ho
replace BK107 := am (blk_grown (rk BK107) hg (Kd.R_ne HO112.out BK107.out (by decide)))
replace BK108 := am (blk_grown (rk BK108) hg (Kd.R_ne HO112.out BK108.out (by decide)))
replace BK122 := am (blk_grown (rk BK122) hg (Kd.R_ne HO112.out BK122.out (by decide)))
replace HB := am (hb)
have HO115 := am (ho)
clear HO112
clear ho hb hg hat
refine hK.out _ _ (bc3 BK107) (fun hHeld => ?_)
clear hK K
refine norm_ (a' := _) (show Act.put _ (some 21) _ = _ from na) ?_
exact norm_ nz (hJ2_5_12 (v111, v114, gb122) _ ⟨hHeld, (rr HO115), (rk BK107), (rk BK108), (rk BK122), GW122.out, GE122.out, NB107_122.out, NB122_107.out, NB108_122.out, NB122_108.out, (rb3 HB GE107 GE108 GE122)⟩)
)
·(
skip
refine Kd.R_lit_step Kd.string _ 9 ?hg (N := 23) ?hd (xs := ([a1] : List ByteArray)) (inner := [.string a1]) (ok := fun _ => True) (okp := fun _ => True) ?hr ?hp (fun _ hk => hk) trivial (Below.refl _ _) (Nat.le_refl _) (by simp) ?_; (case hd => rfl); (case hg => rfl); (case hr => first | (go_simp; done) | (go_simp; rfl)); (case hp => exact (Reps.one (show Kd.M Kd.string _ _ _ a1 [.string a1] from rfl) (Reps.none _ _)))
intro v117 w50 ho51 hb hg_ hnew_
clear hg_ hnew_
(first | rw [← Ny116.out] at ho51 | (simp only [Int.reduceToNat] at ho51; rw [← Ny116.out] at ho51))
have HO118 := am (Kd.R_lower (Kd.R_new' ho51 (Kd.R_lt (rr HO112))) (below_size (rb3 HB GE107 GE108 GE122)))
replace HO112 := am (Kd.R_elder' (rr HO112) (Kd.R_base ho51) hb)
replace BK107 := am (blk_below (rk BK107) hb)
replace BK108 := am (blk_below (rk BK108) hb)
replace BK122 := am (blk_below (rk BK122) hb)
replace HB := am (below_step (rb3 HB GE107 GE108 GE122) hb)
clear hb ho51
refine hK.out _ _ (bc3 BK107) (fun hHeld => ?_)
clear hK K
refine norm_ (a' := _) (show Act.put _ (some 23) _ = _ from na) ?_
exact norm_ nz (hJ2_7_12 (v111, v117, gb122) _ ⟨hHeld, (rrm HO112), (rrm HO118), (rk BK107), (rk BK108), (rk BK122), GW122.out, GE122.out, NB107_122.out, NB122_107.out, NB108_122.out, NB122_108.out, (rb3 HB GE107 GE108 GE122)⟩)
)
)
)
·(
skip
rintro ⟨v111, v117⟩ w50 ⟨hHeld, h0_, h1_, h2_, h3_, h4_⟩
(try dsimp only at hHeld h0_ h1_ h2_ h3_ h4_)
have HO112 := am h0_; have HO118 := am h1_; replace BK107 := am h2_; replace BK108 := am h3_; replace HB := am h4_
clear h0_ h1_ h2_ h3_ h4_
refine norm_ (a' := _) nr ?_
refine two_ (i := 5) (j := 12) (Ni := some 21) (Nj := some 6) (bm 14 1791) (bm 14 5855) rfl rfl rfl rfl (two_of HT_.out (by kernel_rfl)) (by decide) (by decide) (fun K hK => ?_) (fun K hK => ?_)
·(
skip
refine Kd.R_append_rows_step Kd.string (w0 := w) w.heap.size (by rfl) (.tmp 18) (.tmp 20) 24 9 (.string ⟨#[]⟩) 16 rfl Try.underlying24 info9 rfl (by decide) (by omega) v111 y110 l0_1 _ _ _ (fun k_ => some k_ ≠ (v117 : Value).ownBlock) (fun _ => False) rfl rfl ?aO ?aR (fun _ _ h => h) (fun _ h => h.elim) ?aF ?aB ?aS ?aL ?_
(case aR => repeat (first | exact (Kd.C_below HR0_1.out HB.out) | (with_reducible refine Kd.C_alloc ?_ _) | (with_reducible refine Kd.C_drewN ?_ _) | (with_reducible refine Kd.C_drew ?_)))
(case aB => exact (rb2 HB GE107 GE108))
(case aF => exact (fun k_ hk => Kd.fresh' (Kd.R_lt (rr HO118)) k_ hk))
(case aO => exact (rr HO112))
(case aS => exact (below_size (rb2 HB GE107 GE108)))
(case aL => have := LMc17.out; omega)
intro v114 w51 ho hb hg hat
rw [← Ny113.out] at ho
replace BK107 := am (blk_grown (rk BK107) hg (Kd.R_ne HO112.out BK107.out (by decide)))
replace BK108 := am (blk_grown (rk BK108) hg (Kd.R_ne HO112.out BK108.out (by decide)))
replace HO118 := am (Kd.R_after (ok := (fun _ => True)) (by (with_reducible repeat (first | apply r1 | apply r2 | apply r3)); exact Kd.R_mono HO118.out (fun _ hk => ⟨trivial, hk⟩)) hg hat)
replace HB := am (hb)
have HO115 := am (ho)
clear HO112
clear ho hb hg hat
refine hK.out _ _ (bc3 BK107) (fun hHeld => ?_)
clear hK K
refine norm_ (a' := _) (show Act.put _ (some 21) _ = _ from na) ?_
exact norm_ nz (hJ2_5_7 (v111, v114, v117) _ ⟨hHeld, (rr HO115), (rrm HO118), (rk BK107), (rk BK108), (rb2 HB GE107 GE108)⟩)
)
·(
skip
refine box_step ?hg (N := 6) ?hd (cs := #[.int .i64 0, .slice none 0 0, .int .i64 0]) (t := 26) ?hr ?_; (case hd => rfl); (case hg => rfl); (case hr => first | (go_simp; done) | (go_simp; rfl))
intro gb122 hg w51 hbox hb
replace HO112 := am (Kd.R_below (rr HO112) hb)
replace HO118 := am (Kd.R_below (rr HO118) hb)
have BK122 := am (hbox)
have GW122 := am (gw hg (rb2 HB GE107 GE108))
have GE122 := GW122
replace HB := am (below_step (rb2 HB GE107 GE108) hb)
have NB107_122 := am (nl hg (rk BK107))
have NB122_107 := am (ng hg (rk BK107))
replace BK107 := am (blk_below (rk BK107) hb)
have NB108_122 := am (nl hg (rk BK108))
have NB122_108 := am (ng hg (rk BK108))
replace BK108 := am (blk_below (rk BK108) hb)
clear hb hbox hg
refine hK.out _ _ (bc3 BK107) (fun hHeld => ?_)
clear hK K
refine norm_ (a' := _) (show Act.put _ (some 6) _ = _ from na) ?_
exact norm_ nz (hJ2_7_12 (v111, v117, gb122) _ ⟨hHeld, (rr HO112), (rr HO118), (rk BK107), (rk BK108), (rk BK122), GW122.out, GE122.out, NB107_122.out, NB122_107.out, NB108_122.out, NB122_108.out, (rb3 HB GE107 GE108 GE122)⟩)
)
)
)
·(
skip
rintro ⟨v111, v114⟩ w49 ⟨hHeld, h0_, h1_, h2_, h3_⟩
(try dsimp only at hHeld h0_ h1_ h2_ h3_)
have HO115 := am h0_; replace BK107 := am h1_; replace BK108 := am h2_; replace HB := am h3_
clear h0_ h1_ h2_ h3_
refine norm_ (a' := _) nr ?_
refine two_ (i := 7) (j := 12) (Ni := some 23) (Nj := some 6) (bm 14 1791) (bm 14 5759) rfl rfl rfl rfl (two_of HT_.out (by kernel_rfl)) (by decide) (by decide) (fun K hK => ?_) (fun K hK => ?_)
·(
skip
refine Kd.R_lit_step Kd.string _ 9 ?hg (N := 23) ?hd (xs := ([a1] : List ByteArray)) (inner := [.string a1]) (ok := fun _ => True) (okp := fun _ => True) ?hr ?hp (fun _ hk => hk) trivial (Below.refl _ _) (Nat.le_refl _) (by simp) ?_; (case hd => rfl); (case hg => rfl); (case hr => first | (go_simp; done) | (go_simp; rfl)); (case hp => exact (Reps.one (show Kd.M Kd.string _ _ _ a1 [.string a1] from rfl) (Reps.none _ _)))
intro v117 w50 ho51 hb hg_ hnew_
clear hg_ hnew_
(first | rw [← Ny116.out] at ho51 | (simp only [Int.reduceToNat] at ho51; rw [← Ny116.out] at ho51))
have HO118 := am (Kd.R_lower (Kd.R_new' ho51 (Kd.R_lt (rr HO115))) (below_size (rb2 HB GE107 GE108)))
replace HO115 := am (Kd.R_elder' (rr HO115) (Kd.R_base ho51) hb)
replace BK107 := am (blk_below (rk BK107) hb)
replace BK108 := am (blk_below (rk BK108) hb)
replace HB := am (below_step (rb2 HB GE107 GE108) hb)
clear hb ho51
refine hK.out _ _ (bc3 BK107) (fun hHeld => ?_)
clear hK K
refine norm_ (a' := _) (show Act.put _ (some 23) _ = _ from na) ?_
exact norm_ nz (hJ2_5_7 (v111, v114, v117) _ ⟨hHeld, (rrm HO115), (rrm HO118), (rk BK107), (rk BK108), (rb2 HB GE107 GE108)⟩)
)
·(
skip
refine box_step ?hg (N := 6) ?hd (cs := #[.int .i64 0, .slice none 0 0, .int .i64 0]) (t := 26) ?hr ?_; (case hd => rfl); (case hg => rfl); (case hr => first | (go_simp; done) | (go_simp; rfl))
intro gb122 hg w50 hbox hb
replace HO115 := am (Kd.R_below (rr HO115) hb)
have BK122 := am (hbox)
have GW122 := am (gw hg (rb2 HB GE107 GE108))
have GE122 := GW122
replace HB := am (below_step (rb2 HB GE107 GE108) hb)
have NB107_122 := am (nl hg (rk BK107))
have NB122_107 := am (ng hg (rk BK107))
replace BK107 := am (blk_below (rk BK107) hb)
have NB108_122 := am (nl hg (rk BK108))
have NB122_108 := am (ng hg (rk BK108))
replace BK108 := am (blk_below (rk BK108) hb)
clear hb hbox hg
refine hK.out _ _ (bc3 BK107) (fun hHeld => ?_)
clear hK K
refine norm_ (a' := _) (show Act.put _ (some 6) _ = _ from na) ?_
exact norm_ nz (hJ2_5_12 (v111, v114, gb122) _ ⟨hHeld, (rr HO115), (rk BK107), (rk BK108), (rk BK122), GW122.out, GE122.out, NB107_122.out, NB122_107.out, NB108_122.out, NB122_108.out, (rb3 HB GE107 GE108 GE122)⟩)
)
)
)
·(
skip
rintro ⟨v111, v117, gb122⟩ w51 ⟨hHeld, h0_, h1_, h2_, h3_, h4_, h5_, h6_, h7_, h8_, h9_, h10_, h11_⟩
(try dsimp only at hHeld h0_ h1_ h2_ h3_ h4_ h5_ h6_ h7_ h8_ h9_ h10_ h11_)
have HO112 := am h0_; have HO118 := am h1_; replace BK107 := am h2_; replace BK108 := am h3_; have BK122 := am h4_; have GW122 := am h5_; have GE122 := am h6_; have NB107_122 := am h7_; have NB122_107 := am h8_; have NB108_122 := am h9_; have NB122_108 := am h10_; replace HB := am h11_
clear h0_ h1_ h2_ h3_ h4_ h5_ h6_ h7_ h8_ h9_ h10_ h11_
refine norm_ (a' := _) nr ?_
refine one_ (i := 5) (N := some 21) (bm 14 5887) rfl rfl (one_of HT_.out (by kernel_rfl)) (by decide) (fun K hK => ?_)
refine Kd.R_append_rows_step Kd.string (w0 := w) w.heap.size (by rfl) (.tmp 18) (.tmp 20) 24 9 (.string ⟨#[]⟩) 16 rfl Try.underlying24 info9 rfl (by decide) (by omega) v111 y110 l0_1 _ _ _ (fun k_ => some k_ ≠ (v117 : Value).ownBlock) (fun _ => False) rfl rfl ?aO ?aR (fun _ _ h => h) (fun _ h => h.elim) ?aF ?aB ?aS ?aL ?_
(case aR => repeat (first | exact (Kd.C_below HR0_1.out HB.out) | (with_reducible refine Kd.C_alloc ?_ _) | (with_reducible refine Kd.C_drewN ?_ _) | (with_reducible refine Kd.C_drew ?_)))
(case aB => exact (rb3 HB GE107 GE108 GE122))
(case aF => exact (fun k_ hk => Kd.fresh' (Kd.R_lt (rr HO118)) k_ hk))
(case aO => exact (rr HO112))
(case aS => exact (below_size (rb3 HB GE107 GE108 GE122)))
(case aL => have := LMc17.out; omega)
intro v114 w52 ho hb hg hat
rw [← Ny113.out] at ho
replace BK107 := am (blk_grown (rk BK107) hg (Kd.R_ne HO112.out BK107.out (by decide)))
replace BK108 := am (blk_grown (rk BK108) hg (Kd.R_ne HO112.out BK108.out (by decide)))
replace HO118 := am (Kd.R_after (ok := (fun _ => True)) (by (with_reducible repeat (first | apply r1 | apply r2 | apply r3)); exact Kd.R_mono HO118.out (fun _ hk => ⟨trivial, hk⟩)) hg hat)
replace BK122 := am (blk_grown (rk BK122) hg (Kd.R_ne HO112.out BK122.out (by decide)))
replace HB := am (hb)
have HO115 := am (ho)
clear HO112
clear ho hb hg hat
refine hK.out _ _ (bc3 BK107) (fun hHeld => ?_)
clear hK K
refine norm_ (a' := _) (show Act.put _ (some 21) _ = _ from na) ?_
exact norm_ nz (hJ2_5_7_12 (v111, v114, v117, gb122) _ ⟨hHeld, (rr HO115), (rrm HO118), (rk BK107), (rk BK108), (rk BK122), GW122.out, GE122.out, NB107_122.out, NB122_107.out, NB108_122.out, NB122_108.out, (rb3 HB GE107 GE108 GE122)⟩)
)
)
·(
skip
rintro ⟨v111, v114, gb122⟩ w50 ⟨hHeld, h0_, h1_, h2_, h3_, h4_, h5_, h6_, h7_, h8_, h9_, h10_⟩
(try dsimp only at hHeld h0_ h1_ h2_ h3_ h4_ h5_ h6_ h7_ h8_ h9_ h10_)
have HO115 := am h0_; replace BK107 := am h1_; replace BK108 := am h2_; have BK122 := am h3_; have GW122 := am h4_; have GE122 := am h5_; have NB107_122 := am h6_; have NB122_107 := am h7_; have NB108_122 := am h8_; have NB122_108 := am h9_; replace HB := am h10_
clear h0_ h1_ h2_ h3_ h4_ h5_ h6_ h7_ h8_ h9_ h10_
refine norm_ (a' := _) nr ?_
refine one_ (i := 7) (N := some 23) (bm 14 5887) rfl rfl (one_of HT_.out (by kernel_rfl)) (by decide) (fun K hK => ?_)
refine Kd.R_lit_step Kd.string _ 9 ?hg (N := 23) ?hd (xs := ([a1] : List ByteArray)) (inner := [.string a1]) (ok := fun _ => True) (okp := fun _ => True) ?hr ?hp (fun _ hk => hk) trivial (Below.refl _ _) (Nat.le_refl _) (by simp) ?_; (case hd => rfl); (case hg => rfl); (case hr => first | (go_simp; done) | (go_simp; rfl)); (case hp => exact (Reps.one (show Kd.M Kd.string _ _ _ a1 [.string a1] from rfl) (Reps.none _ _)))
intro v117 w51 ho52 hb hg_ hnew_
clear hg_ hnew_
(first | rw [← Ny116.out] at ho52 | (simp only [Int.reduceToNat] at ho52; rw [← Ny116.out] at ho52))
have HO118 := am (Kd.R_lower (Kd.R_new' ho52 (Kd.R_lt (rr HO115))) (below_size (rb3 HB GE107 GE108 GE122)))
replace HO115 := am (Kd.R_elder' (rr HO115) (Kd.R_base ho52) hb)
replace BK107 := am (blk_below (rk BK107) hb)
replace BK108 := am (blk_below (rk BK108) hb)
replace BK122 := am (blk_below (rk BK122) hb)
replace HB := am (below_step (rb3 HB GE107 GE108 GE122) hb)
clear hb ho52
refine hK.out _ _ (bc3 BK107) (fun hHeld => ?_)
clear hK K
refine norm_ (a' := _) (show Act.put _ (some 23) _ = _ from na) ?_
exact norm_ nz (hJ2_5_7_12 (v111, v114, v117, gb122) _ ⟨hHeld, (rrm HO115), (rrm HO118), (rk BK107), (rk BK108), (rk BK122), GW122.out, GE122.out, NB107_122.out, NB122_107.out, NB108_122.out, NB122_108.out, (rb3 HB GE107 GE108 GE122)⟩)
)
)
·(
skip
rintro ⟨v111, v114, v117⟩ w51 ⟨hHeld, h0_, h1_, h2_, h3_, h4_⟩
(try dsimp only at hHeld h0_ h1_ h2_ h3_ h4_)
have HO115 := am h0_; have HO118 := am h1_; replace BK107 := am h2_; replace BK108 := am h3_; replace HB := am h4_
clear h0_ h1_ h2_ h3_ h4_
obtain ⟨Ao53, co53, eo53⟩ := Kd.R_slice HO118.out
(first | subst eo53 | (injection eo53 with f1_ f2_ f3_; have f4_ := f1_.symm; have f5_ := f3_.symm; clear f1_ f2_ f3_; subst f4_; subst f5_))
refine norm_ (a' := _) nr ?_
refine two_ (i := 8) (j := 12) (Ni := some 24) (Nj := some 6) (bm 14 2047) (bm 14 5887) rfl rfl rfl rfl (two_of HT_.out (by kernel_rfl)) (by decide) (by decide) (fun K hK => ?_) (fun K hK => ?_)
·(
skip
refine Kd.R_append_rows_step Kd.string (w0 := w) w.heap.size (by rfl) (.tmp 21) (.tmp 23) 24 9 (.string ⟨#[]⟩) 16 rfl Try.underlying24 info9 rfl (by decide) (by omega) v114 y113 y116 _ _ _ (fun k_ => some k_ ≠ (.slice Ao53 y116.length co53 : Value).ownBlock) (fun _ => False) rfl rfl ?aO ?aR (fun _ _ h => h) (fun _ h => h.elim) ?aF ?aB ?aS ?aL ?_
(case aR => repeat (first | exact (Kd.R_reads' HO118.out).2.2 | (with_reducible refine Kd.C_alloc ?_ _) | (with_reducible refine Kd.C_drewN ?_ _) | (with_reducible refine Kd.C_drew ?_)))
(case aB => exact (rb2 HB GE107 GE108))
(case aF => exact (fun k_ hk => Kd.fresh' (Kd.R_lt (rr HO118)) k_ hk))
(case aO => exact (rr HO115))
(case aS => exact (below_size (rb2 HB GE107 GE108)))
(case aL => have := LMc18.out; omega)
intro v120 w52 ho hb hg hat
rw [← Ny119.out] at ho
replace BK107 := am (blk_grown (rk BK107) hg (Kd.R_ne HO115.out BK107.out (by decide)))
replace BK108 := am (blk_grown (rk BK108) hg (Kd.R_ne HO115.out BK108.out (by decide)))
replace HO118 := am (Kd.R_after (ok := (fun _ => True)) (by (with_reducible repeat (first | apply r1 | apply r2 | apply r3)); exact Kd.R_mono HO118.out (fun _ hk => ⟨trivial, hk⟩)) hg hat)
replace HB := am (hb)
have HO121 := am (ho)
clear HO115
clear ho hb hg hat
obtain ⟨Ao54, co54, eo54⟩ := Kd.R_slice HO121.out
(first | subst eo54 | (injection eo54 with f1_ f2_ f3_; have f4_ := f1_.symm; have f5_ := f3_.symm; clear f1_ f2_ f3_; subst f4_; subst f5_))
refine hK.out _ _ (bc3 BK107) (fun hHeld => ?_)
clear hK K
refine norm_ (a' := _) (show Act.put _ (some 24) _ = _ from na) ?_
refine pu_ 11 27 (bm 14 4095) HT_.out ?_
exact norm_ nz (hJ2_5_7_8 (v111, v114, .slice Ao53 y116.length co53, .slice Ao54 y119.length co54) _ ⟨hHeld, (rrm HO118), (rr HO121), (rk BK107), (rk BK108), (rb2 HB GE107 GE108)⟩)
)
·(
skip
refine box_step ?hg (N := 6) ?hd (cs := #[.int .i64 0, .slice none 0 0, .int .i64 0]) (t := 26) ?hr ?_; (case hd => rfl); (case hg => rfl); (case hr => first | (go_simp; done) | (go_simp; rfl))
intro gb122 hg w52 hbox hb
replace HO115 := am (Kd.R_below (rr HO115) hb)
replace HO118 := am (Kd.R_below (rr HO118) hb)
have BK122 := am (hbox)
have GW122 := am (gw hg (rb2 HB GE107 GE108))
have GE122 := GW122
replace HB := am (below_step (rb2 HB GE107 GE108) hb)
have NB107_122 := am (nl hg (rk BK107))
have NB122_107 := am (ng hg (rk BK107))
replace BK107 := am (blk_below (rk BK107) hb)
have NB108_122 := am (nl hg (rk BK108))
have NB122_108 := am (ng hg (rk BK108))
replace BK108 := am (blk_below (rk BK108) hb)
clear hb hbox hg
refine hK.out _ _ (bc3 BK107) (fun hHeld => ?_)
clear hK K
refine norm_ (a' := _) (show Act.put _ (some 6) _ = _ from na) ?_
exact norm_ nz (hJ2_5_7_12 (v111, v114, .slice Ao53 y116.length co53, gb122) _ ⟨hHeld, (rr HO115), (rr HO118), (rk BK107), (rk BK108), (rk BK122), GW122.out, GE122.out, NB107_122.out, NB122_107.out, NB108_122.out, NB122_108.out, (rb3 HB GE107 GE108 GE122)⟩)
)
)
)
·(
skip
rintro ⟨v111, v114, v117, gb122⟩ w52 ⟨hHeld, h0_, h1_, h2_, h3_, h4_, h5_, h6_, h7_, h8_, h9_, h10_, h11_⟩
(try dsimp only at hHeld h0_ h1_ h2_ h3_ h4_ h5_ h6_ h7_ h8_ h9_ h10_ h11_)
have HO115 := am h0_; have HO118 := am h1_; replace BK107 := am h2_; replace BK108 := am h3_; have BK122 := am h4_; have GW122 := am h5_; have GE122 := am h6_; have NB107_122 := am h7_; have NB122_107 := am h8_; have NB108_122 := am h9_; have NB122_108 := am h10_; replace HB := am h11_
clear h0_ h1_ h2_ h3_ h4_ h5_ h6_ h7_ h8_ h9_ h10_ h11_
obtain ⟨Ao54, co54, eo54⟩ := Kd.R_slice HO118.out
(first | subst eo54 | (injection eo54 with f1_ f2_ f3_; have f4_ := f1_.symm; have f5_ := f3_.symm; clear f1_ f2_ f3_; subst f4_; subst f5_))
refine norm_ (a' := _) nr ?_
refine one_ (i := 8) (N := some 24) (bm 14 6143) rfl rfl (one_of HT_.out (by kernel_rfl)) (by decide) (fun K hK => ?_)
refine Kd.R_append_rows_step Kd.string (w0 := w) w.heap.size (by rfl) (.tmp 21) (.tmp 23) 24 9 (.string ⟨#[]⟩) 16 rfl Try.underlying24 info9 rfl (by decide) (by omega) v114 y113 y116 _ _ _ (fun k_ => some k_ ≠ (.slice Ao54 y116.length co54 : Value).ownBlock) (fun _ => False) rfl rfl ?aO ?aR (fun _ _ h => h) (fun _ h => h.elim) ?aF ?aB ?aS ?aL ?_
(case aR => repeat (first | exact (Kd.R_reads' HO118.out).2.2 | (with_reducible refine Kd.C_alloc ?_ _) | (with_reducible refine Kd.C_drewN ?_ _) | (with_reducible refine Kd.C_drew ?_)))
(case aB => exact (rb3 HB GE107 GE108 GE122))
(case aF => exact (fun k_ hk => Kd.fresh' (Kd.R_lt (rr HO118)) k_ hk))
(case aO => exact (rr HO115))
(case aS => exact (below_size (rb3 HB GE107 GE108 GE122)))
(case aL => have := LMc18.out; omega)
intro v120 w53 ho hb hg hat
rw [← Ny119.out] at ho
replace BK107 := am (blk_grown (rk BK107) hg (Kd.R_ne HO115.out BK107.out (by decide)))
replace BK108 := am (blk_grown (rk BK108) hg (Kd.R_ne HO115.out BK108.out (by decide)))
replace HO118 := am (Kd.R_after (ok := (fun _ => True)) (by (with_reducible repeat (first | apply r1 | apply r2 | apply r3)); exact Kd.R_mono HO118.out (fun _ hk => ⟨trivial, hk⟩)) hg hat)
replace BK122 := am (blk_grown (rk BK122) hg (Kd.R_ne HO115.out BK122.out (by decide)))
replace HB := am (hb)
have HO121 := am (ho)
clear HO115
clear ho hb hg hat
obtain ⟨Ao55, co55, eo55⟩ := Kd.R_slice HO121.out
(first | subst eo55 | (injection eo55 with f1_ f2_ f3_; have f4_ := f1_.symm; have f5_ := f3_.symm; clear f1_ f2_ f3_; subst f4_; subst f5_))
refine hK.out _ _ (bc3 BK107) (fun hHeld => ?_)
clear hK K
refine norm_ (a' := _) (show Act.put _ (some 24) _ = _ from na) ?_
refine pu_ 11 27 (bm 14 8191) HT_.out ?_
exact norm_ nz (hJ2_5_7_8_12 (v111, v114, .slice Ao54 y116.length co54, .slice Ao55 y119.length co55, gb122) _ ⟨hHeld, (rrm HO118), (rr HO121), (rk BK107), (rk BK108), (rk BK122), GW122.out, GE122.out, NB107_122.out, NB122_107.out, NB108_122.out, NB122_108.out, (rb3 HB GE107 GE108 GE122)⟩)
)
)
·(
skip
rintro ⟨v111, v114, v117, v120⟩ w54 ⟨hHeld, h0_, h1_, h2_, h3_, h4_⟩
(try dsimp only at hHeld h0_ h1_ h2_ h3_ h4_)
have HO118 := am h0_; have HO121 := am h1_; replace BK107 := am h2_; replace BK108 := am h3_; replace HB := am h4_
clear h0_ h1_ h2_ h3_ h4_
obtain ⟨Ao55, co55, eo55⟩ := Kd.R_slice HO121.out
(first | subst eo55 | (injection eo55 with f1_ f2_ f3_; have f4_ := f1_.symm; have f5_ := f3_.symm; clear f1_ f2_ f3_; subst f4_; subst f5_))
refine norm_ (a' := _) nr ?_
refine one_ (i := 12) (N := some 6) (bm 14 8191) rfl rfl (one_of HT_.out (by kernel_rfl)) (by decide) (fun K hK => ?_)
refine box_step ?hg (N := 6) ?hd (cs := #[.int .i64 0, .slice none 0 0, .int .i64 0]) (t := 26) ?hr ?_; (case hd => rfl); (case hg => rfl); (case hr => first | (go_simp; done) | (go_simp; rfl))
intro gb122 hg w56 hbox hb
replace HO118 := am (Kd.R_below (rr HO118) hb)
replace HO121 := am (Kd.R_below (rr HO121) hb)
have BK122 := am (hbox)
have GW122 := am (gw hg (rb2 HB GE107 GE108))
have GE122 := GW122
replace HB := am (below_step (rb2 HB GE107 GE108) hb)
have NB107_122 := am (nl hg (rk BK107))
have NB122_107 := am (ng hg (rk BK107))
replace BK107 := am (blk_below (rk BK107) hb)
have NB108_122 := am (nl hg (rk BK108))
have NB122_108 := am (ng hg (rk BK108))
replace BK108 := am (blk_below (rk BK108) hb)
clear hb hbox hg
refine hK.out _ _ (bc3 BK107) (fun hHeld => ?_)
clear hK K
refine norm_ (a' := _) (show Act.put _ (some 6) _ = _ from na) ?_
exact norm_ nz (hJ2_5_7_8_12 (v111, v114, v117, .slice Ao55 y119.length co55, gb122) _ ⟨hHeld, (rr HO118), (rr HO121), (rk BK107), (rk BK108), (rk BK122), GW122.out, GE122.out, NB107_122.out, NB122_107.out, NB108_122.out, NB122_108.out, (rb3 HB GE107 GE108 GE122)⟩)
)
)
rintro ⟨v111, v114, v117, v120, gb122⟩ w55 ⟨hHeld, h0_, h1_, h2_, h3_, h4_, h5_, h6_, h7_, h8_, h9_, h10_, h11_⟩
(try dsimp only at hHeld h0_ h1_ h2_ h3_ h4_ h5_ h6_ h7_ h8_ h9_ h10_ h11_)
have HO118 := am h0_; have HO121 := am h1_; replace BK107 := am h2_; replace BK108 := am h3_; have BK122 := am h4_; have GW122 := am h5_; have GE122 := am h6_; have NB107_122 := am h7_; have NB122_107 := am h8_; have NB108_122 := am h9_; have NB122_108 := am h10_; replace HB := am h11_
clear h0_ h1_ h2_ h3_ h4_ h5_ h6_ h7_ h8_ h9_ h10_ h11_
obtain ⟨Ao56, co56, eo56⟩ := Kd.R_slice HO121.out
(first | subst eo56 | (injection eo56 with f1_ f2_ f3_; have f4_ := f1_.symm; have f5_ := f3_.symm; clear f1_ f2_ f3_; subst f4_; subst f5_))
refine norm_ (a' := _) nr ?_
refine one_ (i := 13) (N := none) (bm 14 16383) rfl rfl (one_of HT_.out (by kernel_rfl)) (by decide) (fun K hK => ?_)
have hs57 : w55.cell? ⟨gb122, 0, none⟩ = some (.int .i64 0) := (blk_cell BK122.out 0).trans rfl
have hfs57 := blk_frozen BK122.out 0
have hns57_0 := NB107_122.out
have hns57_1 := NB108_122.out
have hms57_0 := NB122_107.out
have hms57_1 := NB122_108.out
have hs58 : w55.cell? ⟨gb122, 1, none⟩ = some (.slice none 0 0) := (blk_cell BK122.out 1).trans rfl
have hfs58 := blk_frozen BK122.out 1
have hns58_0 := NB107_122.out
have hns58_1 := NB108_122.out
have hms58_0 := NB122_107.out
have hms58_1 := NB122_108.out
have hs59 : w55.cell? ⟨gb122, 2, none⟩ = some (.int .i64 0) := (blk_cell BK122.out 2).trans rfl
have hfs59 := blk_frozen BK122.out 2
have hns59_0 := NB107_122.out
have hns59_1 := NB108_122.out
have hms59_0 := NB122_107.out
have hms59_1 := NB122_108.out
refine skip_ (w1 := ?_) (by rfl) rfl ?_ ?_
rotate_left
·(
go_simp
rfl
)
refine hK.out _ _ ⟨((cell_far (p := ⟨gb122, _, none⟩) NB107_122.out _).trans (((cell_far (p := ⟨gb122, _, none⟩) NB107_122.out _).trans (((cell_far (p := ⟨gb122, _, none⟩) NB107_122.out _).trans (hHeld.1)))))), ((cell_far (p := ⟨gb122, _, none⟩) NB107_122.out _).trans (((cell_far (p := ⟨gb122, _, none⟩) NB107_122.out _).trans (((cell_far (p := ⟨gb122, _, none⟩) NB107_122.out _).trans (hHeld.2.1)))))), ((cell_far (p := ⟨gb122, _, none⟩) NB107_122.out _).trans (((cell_far (p := ⟨gb122, _, none⟩) NB107_122.out _).trans (((cell_far (p := ⟨gb122, _, none⟩) NB107_122.out _).trans (hHeld.2.2))))))⟩ (fun hHeld => ?_)
clear hK K
refine done_ (done_of HT_.out (by kernel_rfl)) ?_
have n0_ : Aside0 (Kd.R Kd.string 9 (((w55.setCell ⟨gb122, 0, none⟩ (.int .i64 a0_0)).setCell ⟨gb122, 1, none⟩ (.slice Ao56 y119.length co56)).setCell ⟨gb122, 2, none⟩ (.int .i64 a0_2)) w.heap.size (fun k_ => some k_ ≠ (.slice Ao56 y119.length co56 : Value).ownBlock) v117 y116) := ⟨Rm3 HO118 BK122⟩
have n1_ : Aside0 (Kd.R Kd.string 9 (((w55.setCell ⟨gb122, 0, none⟩ (.int .i64 a0_0)).setCell ⟨gb122, 1, none⟩ (.slice Ao56 y119.length co56)).setCell ⟨gb122, 2, none⟩ (.int .i64 a0_2)) w.heap.size (fun k_ => some k_ ≠ (v117 : Value).ownBlock) (.slice Ao56 y119.length co56) y119) := ⟨Rm3 HO121 BK122⟩
have n2_ : Aside0 ((((w55.setCell ⟨gb122, 0, none⟩ (.int .i64 a0_0)).setCell ⟨gb122, 1, none⟩ (.slice Ao56 y119.length co56)).setCell ⟨gb122, 2, none⟩ (.int .i64 a0_2)).heap[gb107]? = some (.cells #[.int .i64 a0_0, .slice A0_1 l0_1.length c0_1, .int .i64 a0_2] 26 (0, 0))) := ⟨rf3 NB107_122 BK107⟩
have n3_ : Aside0 ((((w55.setCell ⟨gb122, 0, none⟩ (.int .i64 a0_0)).setCell ⟨gb122, 1, none⟩ (.slice Ao56 y119.length co56)).setCell ⟨gb122, 2, none⟩ (.int .i64 a0_2)).heap[gb108]? = some (.cells #[.int .i64 0, .slice none 0 0, .int .i64 0] 26 (0, 0))) := ⟨rf3 NB108_122 BK108⟩
have n4_ : Aside0 ((((w55.setCell ⟨gb122, 0, none⟩ (.int .i64 a0_0)).setCell ⟨gb122, 1, none⟩ (.slice Ao56 y119.length co56)).setCell ⟨gb122, 2, none⟩ (.int .i64 a0_2)).heap[gb122]? = some (.cells #[.int .i64 a0_0, .slice Ao56 y119.length co56, .int .i64 a0_2] 26 (0, 0))) := ⟨by (with_reducible repeat (first | apply k1 | apply k2 | apply k3)); refine blk_put (cs := #[.int .i64 a0_0, .slice Ao56 y119.length co56, .int .i64 0]) ?_ 2 _ rfl; (with_reducible repeat (first | apply k1 | apply k2 | apply k3)); refine blk_put (cs := #[.int .i64 a0_0, .slice none 0 0, .int .i64 0]) ?_ 1 _ rfl; (with_reducible repeat (first | apply k1 | apply k2 | apply k3)); refine blk_put (cs := #[.int .i64 0, .slice none 0 0, .int .i64 0]) ?_ 0 _ rfl; (with_reducible repeat (first | apply k1 | apply k2 | apply k3)); exact BK122.out⟩
have n5_ : Aside0 (Below w.heap.size w (((w55.setCell ⟨gb122, 0, none⟩ (.int .i64 a0_0)).setCell ⟨gb122, 1, none⟩ (.slice Ao56 y119.length co56)).setCell ⟨gb122, 2, none⟩ (.int .i64 a0_2))) := ⟨rb3 HB GE107 GE108 GE122⟩
(try clear HO118)
(try clear HO121)
(try clear BK107)
(try clear BK108)
(try clear BK122)
(try clear HB)
generalize (((w55.setCell ⟨gb122, 0, none⟩ (.int .i64 a0_0)).setCell ⟨gb122, 1, none⟩ (.slice Ao56 y119.length co56)).setCell ⟨gb122, 2, none⟩ (.int .i64 a0_2)) = w60 at n0_ n1_ n2_ n3_ n4_ n5_ ⊢
have HO118 := n0_
have HO121 := n1_
have BK107 := n2_
have BK108 := n3_
have BK122 := n4_
have HB := n5_
clear n0_ n1_ n2_ n3_ n4_ n5_
have hnb61 := NB122_107.out
have hnc61 := NB107_122.out
have hnb62 := NB122_108.out
have hnc62 := NB108_122.out
have hcz63_0 : w60.cell? ⟨gb122, 0, none⟩ = some (.int .i64 a0_0) := (blk_cell BK122.out 0).trans rfl
have hcz63_1 : w60.cell? ⟨gb122, 1, none⟩ = some (.slice Ao56 y119.length co56) := (blk_cell BK122.out 1).trans rfl
have hcz63_2 : w60.cell? ⟨gb122, 2, none⟩ = some (.int .i64 a0_2) := (blk_cell BK122.out 2).trans rfl
have hfz63_0 := blk_frozen BK122.out 0
have hfz63_1 := blk_frozen BK122.out 1
have hfz63_2 := blk_frozen BK122.out 2
have hnb64 := NB107_108.out
have hnc64 := NB108_107.out
have hcz65_0 : w60.cell? ⟨gb107, 0, none⟩ = some (.int .i64 a0_0) := (blk_cell BK107.out 0).trans rfl
have hcz65_1 : w60.cell? ⟨gb107, 1, none⟩ = some (.slice A0_1 l0_1.length c0_1) := (blk_cell BK107.out 1).trans rfl
have hcz65_2 : w60.cell? ⟨gb107, 2, none⟩ = some (.int .i64 a0_2) := (blk_cell BK107.out 2).trans rfl
have hfz65_0 := blk_frozen BK107.out 0
have hfz65_1 := blk_frozen BK107.out 1
have hfz65_2 := blk_frozen BK107.out 2
have q66 : (1 : Int) ≤ ((y119.length : Int) : Int) := dt_
obtain ⟨i066, hi066, _, hsz66, _⟩ := info_parts info9
have hcut66 := cut_from (P := Try.prog) 24 9 .i64 Try.underlying24 hi066 1 hsz66 Ao56 y119.length co56 1 (by omega) q66
have hr66 := Kd.Q_drop (k := (1 : Int).toNat) (Kd.Q_of_R HO121.out) (by omega)
obtain ⟨A66, hA66⟩ : ∃ A1, A1 = (if co56 = (1 : Int).toNat then Ao56 else (Ao56 : Option Addr).map (·.add ((1 : Int).toNat * 1))) := ⟨_, rfl⟩
obtain ⟨c66, hc66⟩ : ∃ c1, c1 = co56 - (1 : Int).toNat := ⟨_, rfl⟩
have hy66 : y123.length = y119.length - (1 : Int).toNat := (by rw [Ny123.out, List.length_drop])
rw [← Ny123.out] at hr66
rw [← hy66, ← hA66, ← hc66] at hcut66
replace hr66 : Kd.Q Kd.string 9 w60 w.heap.size (fun k_ => some k_ ≠ (v117 : Value).ownBlock) (.slice A66 y123.length c66) y123 := (by rw [hA66, hc66, hy66]; exact hr66)
have HE66 : Aside0 ((Value.slice A66 y123.length c66).ownBlock = (.slice Ao56 y119.length co56 : Value).ownBlock) := ⟨by rw [hA66]; split <;> (cases (Ao56 : Option Addr) <;> rfl)⟩
clear hy66 hi066 hsz66 HO121 hA66 hc66
have HO125 := am hr66
clear hr66
replace q66 := eq_true q66
have n_ := am (Kd.R_mono (ok' := fun k_ => some k_ ≠ (.slice A66 y123.length c66 : Value).ownBlock) HO118.out (fun k_ hk => (by rw [HE66.out]; exact hk)))
clear HO118
have HO118 := n_
clear n_
have hcz67_0 : w60.cell? ⟨gb108, 0, none⟩ = some (.int .i64 0) := (blk_cell BK108.out 0).trans rfl
have hcz67_1 : w60.cell? ⟨gb108, 1, none⟩ = some (.slice none 0 0) := (blk_cell BK108.out 1).trans rfl
have hcz67_2 : w60.cell? ⟨gb108, 2, none⟩ = some (.int .i64 0) := (blk_cell BK108.out 2).trans rfl
have hfz67_0 := blk_frozen BK108.out 0
have hfz67_1 := blk_frozen BK108.out 1
have hfz67_2 := blk_frozen BK108.out 2
try go_wp2
refine bodyPost_ret (results_ct rfl _ _ gb108 26 #[.int .i64 a0_0, .slice A66 y123.length c66, .int .i64 (wrap64 (a0_2 + 1))] (0, 0) _ rfl (by (with_reducible repeat (first | apply k1 | apply k2 | apply k3)); refine blk_put (cs := #[.int .i64 a0_0, .slice A66 y123.length c66, .int .i64 0]) ?_ 2 _ rfl; (with_reducible repeat (first | apply k1 | apply k2 | apply k3)); refine blk_put (cs := #[.int .i64 a0_0, .slice none 0 0, .int .i64 0]) ?_ 1 _ rfl; (with_reducible repeat (first | apply k1 | apply k2 | apply k3)); refine blk_put (cs := #[.int .i64 0, .slice none 0 0, .int .i64 0]) ?_ 0 _ rfl; (with_reducible repeat (first | apply k1 | apply k2 | apply k3)); refine blk_far ?_ NB108_122.out _; (with_reducible repeat (first | apply k1 | apply k2 | apply k3)); refine blk_far ?_ NB108_122.out _; (with_reducible repeat (first | apply k1 | apply k2 | apply k3)); exact BK108.out) Try.underlying26 rfl (by kernel_rfl)) rfl ?_
exact ⟨_, by first | rfl | (simp [errW_none, errW_some] <;> rfl) | (simp [*, errW_none, errW_some] <;> rfl), by (with_reducible repeat (first | apply Kd.Q_alloc | apply Kd.Q_drewN | apply Kd.Q_drew)); exact Kd.Q_mono (Kd.Q_far (p := ⟨gb108, 2, none⟩) (Kd.Q_far (p := ⟨gb108, 1, none⟩) (Kd.Q_far (p := ⟨gb108, 0, none⟩) (Kd.Q_far (p := ⟨gb122, 2, none⟩) (Kd.Q_far (p := ⟨gb122, 1, none⟩) (Kd.Q_types (Kd.Q_types HO125.out BK122.out (by decide)) BK108.out (by decide)) (fun _ hk => hk.1.2) (.slice A66 y123.length c66)) (fun _ hk => hk.1.2) (.int .i64 (wrap64 (a0_2 + 1)))) (fun _ hk => hk.2) (.int .i64 a0_0)) (fun _ hk => hk.2) (.slice A66 y123.length c66)) (fun _ hk => hk.2) (.int .i64 (wrap64 (a0_2 + 1)))) (fun _ hk => trivial), rb3 HB GE107 GE108 GE122⟩
)
)
·(
rw [if_neg c20] at H
exact absurd H (by simp)
)
)
·(
rw [if_neg c19] at H
have c19b0 : decide (a0_0 < (y119.length : Int)) = false := decide_eq_false c19
clear c19
by_cases c68 : a0_2 > 1000000
·(
rw [if_pos c68] at H
have c68b0 : decide (1000000 < a0_2) = true := decide_eq_true c68
clear c68
simp only [Option.some.injEq, Prod.mk.injEq] at H
obtain ⟨rfl, rfl, rfl, rfl⟩ := H
try go_wp2
replace BK107 := am (blk_drew BK107.out)
replace BK108 := am (blk_drew BK108.out)
replace HB := am (below_drew1 HB.out)
refine start_ (n := 14) (S := fun w' => w'.cell? ⟨gb107, 0, none⟩ = some (.int .i64 a0_0) ∧ w'.cell? ⟨gb107, 1, none⟩ = some (.slice A0_1 l0_1.length c0_1) ∧ w'.cell? ⟨gb107, 2, none⟩ = some (.int .i64 a0_2)) (ds := []) (bm 14 0) (by kernel_rfl) rfl rfl (bc3 BK107) (fun hHeld => ?_); refine with_tabW spec_Keep.tab3 spec_Keep.bits3 (fun HT_ HW_ => ?_)
generalize wc.drew = w69 at BK107 BK108 HB hHeld ⊢
refine pu_ 0 16 (bm 14 1) HT_.out ?_
refine pu_ 3 19 (bm 14 9) HT_.out ?_
refine pu_ 6 22 (bm 14 73) HT_.out ?_
refine pu_ 9 25 (bm 14 585) HT_.out ?_
refine take_ (i := 1) (N := some 17) (v := ?_) (a' := ?_) (bm 14 587) rfl rfl (take_ofW HT_.out HW_.out (by kernel_rfl)) (fun _ _ _ h => h) (Or.inl ⟨by rfl, ?_⟩) hHeld ?_ ?_
rotate_left
·(
rintro w' ⟨s0, s1, s2⟩
go_simp
with_reducible rfl
)
rotate_left
·(
simp only [Act.put, List.setIfInBounds_toArray, List.set_cons_zero, List.set_cons_succ, i64_w, i32_w]
rfl
)
refine take_ (i := 4) (N := some 20) (v := ?_) (a' := ?_) (bm 14 603) rfl rfl (take_ofW HT_.out HW_.out (by kernel_rfl)) (fun _ _ _ h => h) (Or.inl ⟨by rfl, ?_⟩) hHeld ?_ ?_
rotate_left
·(
rintro w' ⟨s0, s1, s2⟩
go_simp
with_reducible rfl
)
rotate_left
·(
simp only [Act.put, List.setIfInBounds_toArray, List.set_cons_zero, List.set_cons_succ, i64_w, i32_w]
rfl
)
refine take_ (i := 10) (N := some 26) (v := ?_) (a' := ?_) (bm 14 1627) rfl rfl (take_ofW HT_.out HW_.out (by kernel_rfl)) (fun _ _ _ h => h) (Or.inl ⟨by rfl, ?_⟩) hHeld ?_ ?_
rotate_left
·(
rintro w' ⟨s0, s1, s2⟩
go_simp
with_reducible rfl
)
rotate_left
·(
simp only [Act.put, List.setIfInBounds_toArray, List.set_cons_zero, List.set_cons_succ, i64_w, i32_w]
rfl
)
refine join_ (σ := Value × Value × Value × Value × Nat) 1 (bm 14 8191) (fun s_ => [(18, s_.1), (21, s_.2.1), (23, s_.2.2.1), (24, s_.2.2.2.1), (6, .pointer (some ⟨s_.2.2.2.2, 0, none⟩)), (27, .agg #[.int .i64 a0_0, s_.2.2.2.1, .int .i64 a0_2])]) (fun s_ w' => (w'.cell? ⟨gb107, 0, none⟩ = some (.int .i64 a0_0) ∧ w'.cell? ⟨gb107, 1, none⟩ = some (.slice A0_1 l0_1.length c0_1) ∧ w'.cell? ⟨gb107, 2, none⟩ = some (.int .i64 a0_2)) ∧ (Kd.R Kd.string 9 w' w.heap.size (fun k_ => some k_ ≠ (s_.2.2.2.1 : Value).ownBlock) s_.2.2.1 y116) ∧ (Kd.R Kd.string 9 w' w.heap.size (fun k_ => some k_ ≠ (s_.2.2.1 : Value).ownBlock) s_.2.2.2.1 y119) ∧ (w'.heap[gb107]? = some (.cells #[.int .i64 a0_0, .slice A0_1 l0_1.length c0_1, .int .i64 a0_2] 26 (0, 0))) ∧ (w'.heap[gb108]? = some (.cells #[.int .i64 0, .slice none 0 0, .int .i64 0] 26 (0, 0))) ∧ (w'.heap[s_.2.2.2.2]? = some (.cells #[.int .i64 0, .slice none 0 0, .int .i64 0] 26 (0, 0))) ∧ (w.heap.size ≤ s_.2.2.2.2) ∧ (w.heap.size ≤ s_.2.2.2.2) ∧ (gb107 ≠ s_.2.2.2.2) ∧ (s_.2.2.2.2 ≠ gb107) ∧ (gb108 ≠ s_.2.2.2.2) ∧ (s_.2.2.2.2 ≠ gb108) ∧ (Below w.heap.size w w')) ?_ ?_
rotate_left
·(
intro hJ2_5_7_8_12
refine join_ (σ := Value × Value × Value × Value) 2 (bm 14 4095) (fun s_ => [(18, s_.1), (21, s_.2.1), (23, s_.2.2.1), (24, s_.2.2.2), (27, .agg #[.int .i64 a0_0, s_.2.2.2, .int .i64 a0_2])]) (fun s_ w' => (w'.cell? ⟨gb107, 0, none⟩ = some (.int .i64 a0_0) ∧ w'.cell? ⟨gb107, 1, none⟩ = some (.slice A0_1 l0_1.length c0_1) ∧ w'.cell? ⟨gb107, 2, none⟩ = some (.int .i64 a0_2)) ∧ (Kd.R Kd.string 9 w' w.heap.size (fun k_ => some k_ ≠ (s_.2.2.2 : Value).ownBlock) s_.2.2.1 y116) ∧ (Kd.R Kd.string 9 w' w.heap.size (fun k_ => some k_ ≠ (s_.2.2.1 : Value).ownBlock) s_.2.2.2 y119) ∧ (w'.heap[gb107]? = some (.cells #[.int .i64 a0_0, .slice A0_1 l0_1.length c0_1, .int .i64 a0_2] 26 (0, 0))) ∧ (w'.heap[gb108]? = some (.cells #[.int .i64 0, .slice none 0 0, .int .i64 0] 26 (0, 0))) ∧ (Below w.heap.size w w')) ?_ ?_
rotate_left
·(
intro hJ2_5_7_8
refine join_ (σ := Value × Value × Value × Nat) 3 (bm 14 5887) (fun s_ => [(18, s_.1), (21, s_.2.1), (23, s_.2.2.1), (6, .pointer (some ⟨s_.2.2.2, 0, none⟩))]) (fun s_ w' => (w'.cell? ⟨gb107, 0, none⟩ = some (.int .i64 a0_0) ∧ w'.cell? ⟨gb107, 1, none⟩ = some (.slice A0_1 l0_1.length c0_1) ∧ w'.cell? ⟨gb107, 2, none⟩ = some (.int .i64 a0_2)) ∧ (Kd.R Kd.string 9 w' w.heap.size (fun k_ => some k_ ≠ (s_.2.2.1 : Value).ownBlock) s_.2.1 y113) ∧ (Kd.R Kd.string 9 w' w.heap.size (fun k_ => some k_ ≠ (s_.2.1 : Value).ownBlock) s_.2.2.1 y116) ∧ (w'.heap[gb107]? = some (.cells #[.int .i64 a0_0, .slice A0_1 l0_1.length c0_1, .int .i64 a0_2] 26 (0, 0))) ∧ (w'.heap[gb108]? = some (.cells #[.int .i64 0, .slice none 0 0, .int .i64 0] 26 (0, 0))) ∧ (w'.heap[s_.2.2.2]? = some (.cells #[.int .i64 0, .slice none 0 0, .int .i64 0] 26 (0, 0))) ∧ (w.heap.size ≤ s_.2.2.2) ∧ (w.heap.size ≤ s_.2.2.2) ∧ (gb107 ≠ s_.2.2.2) ∧ (s_.2.2.2 ≠ gb107) ∧ (gb108 ≠ s_.2.2.2) ∧ (s_.2.2.2 ≠ gb108) ∧ (Below w.heap.size w w')) ?_ ?_
rotate_left
·(
intro hJ2_5_7_12
refine join_ (σ := Value × Value × Value) 4 (bm 14 1791) (fun s_ => [(18, s_.1), (21, s_.2.1), (23, s_.2.2)]) (fun s_ w' => (w'.cell? ⟨gb107, 0, none⟩ = some (.int .i64 a0_0) ∧ w'.cell? ⟨gb107, 1, none⟩ = some (.slice A0_1 l0_1.length c0_1) ∧ w'.cell? ⟨gb107, 2, none⟩ = some (.int .i64 a0_2)) ∧ (Kd.R Kd.string 9 w' w.heap.size (fun k_ => some k_ ≠ (s_.2.2 : Value).ownBlock) s_.2.1 y113) ∧ (Kd.R Kd.string 9 w' w.heap.size (fun k_ => some k_ ≠ (s_.2.1 : Value).ownBlock) s_.2.2 y116) ∧ (w'.heap[gb107]? = some (.cells #[.int .i64 a0_0, .slice A0_1 l0_1.length c0_1, .int .i64 a0_2] 26 (0, 0))) ∧ (w'.heap[gb108]? = some (.cells #[.int .i64 0, .slice none 0 0, .int .i64 0] 26 (0, 0))) ∧ (Below w.heap.size w w')) ?_ ?_
rotate_left
·(
intro hJ2_5_7
refine join_ (σ := Value × Value × Nat) 4 (bm 14 5759) (fun s_ => [(18, s_.1), (21, s_.2.1), (6, .pointer (some ⟨s_.2.2, 0, none⟩))]) (fun s_ w' => (w'.cell? ⟨gb107, 0, none⟩ = some (.int .i64 a0_0) ∧ w'.cell? ⟨gb107, 1, none⟩ = some (.slice A0_1 l0_1.length c0_1) ∧ w'.cell? ⟨gb107, 2, none⟩ = some (.int .i64 a0_2)) ∧ (Kd.R Kd.string 9 w' w.heap.size (fun _ => True) s_.2.1 y113) ∧ (w'.heap[gb107]? = some (.cells #[.int .i64 a0_0, .slice A0_1 l0_1.length c0_1, .int .i64 a0_2] 26 (0, 0))) ∧ (w'.heap[gb108]? = some (.cells #[.int .i64 0, .slice none 0 0, .int .i64 0] 26 (0, 0))) ∧ (w'.heap[s_.2.2]? = some (.cells #[.int .i64 0, .slice none 0 0, .int .i64 0] 26 (0, 0))) ∧ (w.heap.size ≤ s_.2.2) ∧ (w.heap.size ≤ s_.2.2) ∧ (gb107 ≠ s_.2.2) ∧ (s_.2.2 ≠ gb107) ∧ (gb108 ≠ s_.2.2) ∧ (s_.2.2 ≠ gb108) ∧ (Below w.heap.size w w')) ?_ ?_
rotate_left
·(
intro hJ2_5_12
refine join_ (σ := Value × Value × Nat) 4 (bm 14 5855) (fun s_ => [(18, s_.1), (23, s_.2.1), (6, .pointer (some ⟨s_.2.2, 0, none⟩))]) (fun s_ w' => (w'.cell? ⟨gb107, 0, none⟩ = some (.int .i64 a0_0) ∧ w'.cell? ⟨gb107, 1, none⟩ = some (.slice A0_1 l0_1.length c0_1) ∧ w'.cell? ⟨gb107, 2, none⟩ = some (.int .i64 a0_2)) ∧ (Kd.R Kd.string 9 w' w.heap.size (fun k_ => some k_ ≠ (s_.2.1 : Value).ownBlock) s_.1 y110) ∧ (Kd.R Kd.string 9 w' w.heap.size (fun k_ => some k_ ≠ (s_.1 : Value).ownBlock) s_.2.1 y116) ∧ (w'.heap[gb107]? = some (.cells #[.int .i64 a0_0, .slice A0_1 l0_1.length c0_1, .int .i64 a0_2] 26 (0, 0))) ∧ (w'.heap[gb108]? = some (.cells #[.int .i64 0, .slice none 0 0, .int .i64 0] 26 (0, 0))) ∧ (w'.heap[s_.2.2]? = some (.cells #[.int .i64 0, .slice none 0 0, .int .i64 0] 26 (0, 0))) ∧ (w.heap.size ≤ s_.2.2) ∧ (w.heap.size ≤ s_.2.2) ∧ (gb107 ≠ s_.2.2) ∧ (s_.2.2 ≠ gb107) ∧ (gb108 ≠ s_.2.2) ∧ (s_.2.2 ≠ gb108) ∧ (Below w.heap.size w w')) ?_ ?_
rotate_left
·(
intro hJ2_7_12
refine join_ (σ := Value × Value) 5 (bm 14 1663) (fun s_ => [(18, s_.1), (21, s_.2)]) (fun s_ w' => (w'.cell? ⟨gb107, 0, none⟩ = some (.int .i64 a0_0) ∧ w'.cell? ⟨gb107, 1, none⟩ = some (.slice A0_1 l0_1.length c0_1) ∧ w'.cell? ⟨gb107, 2, none⟩ = some (.int .i64 a0_2)) ∧ (Kd.R Kd.string 9 w' w.heap.size (fun _ => True) s_.2 y113) ∧ (w'.heap[gb107]? = some (.cells #[.int .i64 a0_0, .slice A0_1 l0_1.length c0_1, .int .i64 a0_2] 26 (0, 0))) ∧ (w'.heap[gb108]? = some (.cells #[.int .i64 0, .slice none 0 0, .int .i64 0] 26 (0, 0))) ∧ (Below w.heap.size w w')) ?_ ?_
rotate_left
·(
intro hJ2_5
refine join_ (σ := Value × Value) 5 (bm 14 1759) (fun s_ => [(18, s_.1), (23, s_.2)]) (fun s_ w' => (w'.cell? ⟨gb107, 0, none⟩ = some (.int .i64 a0_0) ∧ w'.cell? ⟨gb107, 1, none⟩ = some (.slice A0_1 l0_1.length c0_1) ∧ w'.cell? ⟨gb107, 2, none⟩ = some (.int .i64 a0_2)) ∧ (Kd.R Kd.string 9 w' w.heap.size (fun k_ => some k_ ≠ (s_.2 : Value).ownBlock) s_.1 y110) ∧ (Kd.R Kd.string 9 w' w.heap.size (fun k_ => some k_ ≠ (s_.1 : Value).ownBlock) s_.2 y116) ∧ (w'.heap[gb107]? = some (.cells #[.int .i64 a0_0, .slice A0_1 l0_1.length c0_1, .int .i64 a0_2] 26 (0, 0))) ∧ (w'.heap[gb108]? = some (.cells #[.int .i64 0, .slice none 0 0, .int .i64 0] 26 (0, 0))) ∧ (Below w.heap.size w w')) ?_ ?_
rotate_left
·(
intro hJ2_7
refine join_ (σ := Value × Nat) 5 (bm 14 5727) (fun s_ => [(18, s_.1), (6, .pointer (some ⟨s_.2, 0, none⟩))]) (fun s_ w' => (w'.cell? ⟨gb107, 0, none⟩ = some (.int .i64 a0_0) ∧ w'.cell? ⟨gb107, 1, none⟩ = some (.slice A0_1 l0_1.length c0_1) ∧ w'.cell? ⟨gb107, 2, none⟩ = some (.int .i64 a0_2)) ∧ (Kd.R Kd.string 9 w' w.heap.size (fun _ => True) s_.1 y110) ∧ (w'.heap[gb107]? = some (.cells #[.int .i64 a0_0, .slice A0_1 l0_1.length c0_1, .int .i64 a0_2] 26 (0, 0))) ∧ (w'.heap[gb108]? = some (.cells #[.int .i64 0, .slice none 0 0, .int .i64 0] 26 (0, 0))) ∧ (w'.heap[s_.2]? = some (.cells #[.int .i64 0, .slice none 0 0, .int .i64 0] 26 (0, 0))) ∧ (w.heap.size ≤ s_.2) ∧ (w.heap.size ≤ s_.2) ∧ (gb107 ≠ s_.2) ∧ (s_.2 ≠ gb107) ∧ (gb108 ≠ s_.2) ∧ (s_.2 ≠ gb108) ∧ (Below w.heap.size w w')) ?_ ?_
rotate_left
·(
intro hJ2_12
refine join_ (σ := Value × Nat) 5 (bm 14 5851) (fun s_ => [(23, s_.1), (6, .pointer (some ⟨s_.2, 0, none⟩))]) (fun s_ w' => (w'.cell? ⟨gb107, 0, none⟩ = some (.int .i64 a0_0) ∧ w'.cell? ⟨gb107, 1, none⟩ = some (.slice A0_1 l0_1.length c0_1) ∧ w'.cell? ⟨gb107, 2, none⟩ = some (.int .i64 a0_2)) ∧ (Kd.R Kd.string 9 w' w.heap.size (fun _ => True) s_.1 y116) ∧ (w'.heap[gb107]? = some (.cells #[.int .i64 a0_0, .slice A0_1 l0_1.length c0_1, .int .i64 a0_2] 26 (0, 0))) ∧ (w'.heap[gb108]? = some (.cells #[.int .i64 0, .slice none 0 0, .int .i64 0] 26 (0, 0))) ∧ (w'.heap[s_.2]? = some (.cells #[.int .i64 0, .slice none 0 0, .int .i64 0] 26 (0, 0))) ∧ (w.heap.size ≤ s_.2) ∧ (w.heap.size ≤ s_.2) ∧ (gb107 ≠ s_.2) ∧ (s_.2 ≠ gb107) ∧ (gb108 ≠ s_.2) ∧ (s_.2 ≠ gb108) ∧ (Below w.heap.size w w')) ?_ ?_
rotate_left
·(
intro hJ7_12
refine join_ (σ := Value) 6 (bm 14 1631) (fun s_ => [(18, s_)]) (fun s_ w' => (w'.cell? ⟨gb107, 0, none⟩ = some (.int .i64 a0_0) ∧ w'.cell? ⟨gb107, 1, none⟩ = some (.slice A0_1 l0_1.length c0_1) ∧ w'.cell? ⟨gb107, 2, none⟩ = some (.int .i64 a0_2)) ∧ (Kd.R Kd.string 9 w' w.heap.size (fun _ => True) s_ y110) ∧ (w'.heap[gb107]? = some (.cells #[.int .i64 a0_0, .slice A0_1 l0_1.length c0_1, .int .i64 a0_2] 26 (0, 0))) ∧ (w'.heap[gb108]? = some (.cells #[.int .i64 0, .slice none 0 0, .int .i64 0] 26 (0, 0))) ∧ (Below w.heap.size w w')) ?_ ?_
rotate_left
·(
intro hJ2
refine join_ (σ := Value) 6 (bm 14 1755) (fun s_ => [(23, s_)]) (fun s_ w' => (w'.cell? ⟨gb107, 0, none⟩ = some (.int .i64 a0_0) ∧ w'.cell? ⟨gb107, 1, none⟩ = some (.slice A0_1 l0_1.length c0_1) ∧ w'.cell? ⟨gb107, 2, none⟩ = some (.int .i64 a0_2)) ∧ (Kd.R Kd.string 9 w' w.heap.size (fun _ => True) s_ y116) ∧ (w'.heap[gb107]? = some (.cells #[.int .i64 a0_0, .slice A0_1 l0_1.length c0_1, .int .i64 a0_2] 26 (0, 0))) ∧ (w'.heap[gb108]? = some (.cells #[.int .i64 0, .slice none 0 0, .int .i64 0] 26 (0, 0))) ∧ (Below w.heap.size w w')) ?_ ?_
rotate_left
·(
intro hJ7
refine join_ (σ := Nat) 6 (bm 14 5723) (fun s_ => [(6, .pointer (some ⟨s_, 0, none⟩))]) (fun s_ w' => (w'.cell? ⟨gb107, 0, none⟩ = some (.int .i64 a0_0) ∧ w'.cell? ⟨gb107, 1, none⟩ = some (.slice A0_1 l0_1.length c0_1) ∧ w'.cell? ⟨gb107, 2, none⟩ = some (.int .i64 a0_2)) ∧ (w'.heap[gb107]? = some (.cells #[.int .i64 a0_0, .slice A0_1 l0_1.length c0_1, .int .i64 a0_2] 26 (0, 0))) ∧ (w'.heap[gb108]? = some (.cells #[.int .i64 0, .slice none 0 0, .int .i64 0] 26 (0, 0))) ∧ (w'.heap[s_]? = some (.cells #[.int .i64 0, .slice none 0 0, .int .i64 0] 26 (0, 0))) ∧ (w.heap.size ≤ s_) ∧ (w.heap.size ≤ s_) ∧ (gb107 ≠ s_) ∧ (s_ ≠ gb107) ∧ (gb108 ≠ s_) ∧ (s_ ≠ gb108) ∧ (Below w.heap.size w w')) ?_ ?_
rotate_left
·(
intro hJ12
refine three_ (i := 2) (j := 7) (k := 12) (Ni := some 18) (Nj := some 23) (Nk := some 6) (bm 14 1631) (bm 14 1755) (bm 14 5723) rfl rfl rfl rfl rfl rfl (three_of HT_.out (by kernel_rfl)) (by decide) (by decide) (by decide) (fun K hK => ?_) (fun K hK => ?_) (fun K hK => ?_)
·(
skip
refine Kd.R_lit_step Kd.string _ 9 ?hg (N := 18) ?hd (xs := ([] : List ByteArray)) (inner := []) (ok := fun _ => True) (okp := fun _ => True) ?hr ?hp (fun _ hk => hk) trivial (Below.refl _ _) (Nat.le_refl _) (by simp) ?_; (case hd => rfl); (case hg => rfl); (case hr => first | (go_simp; done) | (go_simp; rfl)); (case hp => exact (Reps.none _ _))
intro v111 w70 ho71 hb hg_ hnew_
clear hg_ hnew_
(first | rw [← Ny110.out] at ho71 | (simp only [Int.reduceToNat] at ho71; rw [← Ny110.out] at ho71))
have HO112 := am (Kd.R_lower ho71 (below_size (rb2 HB GE107 GE108)))
replace BK107 := am (blk_below (rk BK107) hb)
replace BK108 := am (blk_below (rk BK108) hb)
replace HB := am (below_step (rb2 HB GE107 GE108) hb)
clear hb ho71
refine hK.out _ _ (bc3 BK107) (fun hHeld => ?_)
clear hK K
refine norm_ (a' := _) (show Act.put _ (some 18) _ = _ from na) ?_
exact norm_ nz (hJ2 (v111) _ ⟨hHeld, (rr HO112), (rk BK107), (rk BK108), (rb2 HB GE107 GE108)⟩)
)
·(
skip
refine Kd.R_lit_step Kd.string _ 9 ?hg (N := 23) ?hd (xs := ([a1] : List ByteArray)) (inner := [.string a1]) (ok := fun _ => True) (okp := fun _ => True) ?hr ?hp (fun _ hk => hk) trivial (Below.refl _ _) (Nat.le_refl _) (by simp) ?_; (case hd => rfl); (case hg => rfl); (case hr => first | (go_simp; done) | (go_simp; rfl)); (case hp => exact (Reps.one (show Kd.M Kd.string _ _ _ a1 [.string a1] from rfl) (Reps.none _ _)))
intro v117 w70 ho71 hb hg_ hnew_
clear hg_ hnew_
(first | rw [← Ny116.out] at ho71 | (simp only [Int.reduceToNat] at ho71; rw [← Ny116.out] at ho71))
have HO118 := am (Kd.R_lower ho71 (below_size (rb2 HB GE107 GE108)))
replace BK107 := am (blk_below (rk BK107) hb)
replace BK108 := am (blk_below (rk BK108) hb)
replace HB := am (below_step (rb2 HB GE107 GE108) hb)
clear hb ho71
refine hK.out _ _ (bc3 BK107) (fun hHeld => ?_)
clear hK K
refine norm_ (a' := _) (show Act.put _ (some 23) _ = _ from na) ?_
exact norm_ nz (hJ7 (v117) _ ⟨hHeld, (rr HO118), (rk BK107), (rk BK108), (rb2 HB GE107 GE108)⟩)
)
·(
skip
refine box_step ?hg (N := 6) ?hd (cs := #[.int .i64 0, .slice none 0 0, .int .i64 0]) (t := 26) ?hr ?_; (case hd => rfl); (case hg => rfl); (case hr => first | (go_simp; done) | (go_simp; rfl))
intro gb122 hg w70 hbox hb
have BK122 := am (hbox)
have GW122 := am (gw hg (rb2 HB GE107 GE108))
have GE122 := GW122
replace HB := am (below_step (rb2 HB GE107 GE108) hb)
have NB107_122 := am (nl hg (rk BK107))
have NB122_107 := am (ng hg (rk BK107))
replace BK107 := am (blk_below (rk BK107) hb)
have NB108_122 := am (nl hg (rk BK108))
have NB122_108 := am (ng hg (rk BK108))
replace BK108 := am (blk_below (rk BK108) hb)
clear hb hbox hg
refine hK.out _ _ (bc3 BK107) (fun hHeld => ?_)
clear hK K
refine norm_ (a' := _) (show Act.put _ (some 6) _ = _ from na) ?_
exact norm_ nz (hJ12 (gb122) _ ⟨hHeld, (rk BK107), (rk BK108), (rk BK122), GW122.out, GE122.out, NB107_122.out, NB122_107.out, NB108_122.out, NB122_108.out, (rb3 HB GE107 GE108 GE122)⟩)
)
)
·(
skip
rintro gb122 w71 ⟨hHeld, h0_, h1_, h2_, h3_, h4_, h5_, h6_, h7_, h8_, h9_⟩
(try dsimp only at hHeld h0_ h1_ h2_ h3_ h4_ h5_ h6_ h7_ h8_ h9_)
replace BK107 := am h0_; replace BK108 := am h1_; have BK122 := am h2_; have GW122 := am h3_; have GE122 := am h4_; have NB107_122 := am h5_; have NB122_107 := am h6_; have NB108_122 := am h7_; have NB122_108 := am h8_; replace HB := am h9_
clear h0_ h1_ h2_ h3_ h4_ h5_ h6_ h7_ h8_ h9_
refine norm_ (a' := _) nr ?_
refine two_ (i := 2) (j := 7) (Ni := some 18) (Nj := some 23) (bm 14 5727) (bm 14 5851) rfl rfl rfl rfl (two_of HT_.out (by kernel_rfl)) (by decide) (by decide) (fun K hK => ?_) (fun K hK => ?_)
·(
skip
refine Kd.R_lit_step Kd.string _ 9 ?hg (N := 18) ?hd (xs := ([] : List ByteArray)) (inner := []) (ok := fun _ => True) (okp := fun _ => True) ?hr ?hp (fun _ hk => hk) trivial (Below.refl _ _) (Nat.le_refl _) (by simp) ?_; (case hd => rfl); (case hg => rfl); (case hr => first | (go_simp; done) | (go_simp; rfl)); (case hp => exact (Reps.none _ _))
intro v111 w72 ho73 hb hg_ hnew_
clear hg_ hnew_
(first | rw [← Ny110.out] at ho73 | (simp only [Int.reduceToNat] at ho73; rw [← Ny110.out] at ho73))
have HO112 := am (Kd.R_lower ho73 (below_size (rb3 HB GE107 GE108 GE122)))
replace BK107 := am (blk_below (rk BK107) hb)
replace BK108 := am (blk_below (rk BK108) hb)
replace BK122 := am (blk_below (rk BK122) hb)
replace HB := am (below_step (rb3 HB GE107 GE108 GE122) hb)
clear hb ho73
refine hK.out _ _ (bc3 BK107) (fun hHeld => ?_)
clear hK K
refine norm_ (a' := _) (show Act.put _ (some 18) _ = _ from na) ?_
exact norm_ nz (hJ2_12 (v111, gb122) _ ⟨hHeld, (rr HO112), (rk BK107), (rk BK108), (rk BK122), GW122.out, GE122.out, NB107_122.out, NB122_107.out, NB108_122.out, NB122_108.out, (rb3 HB GE107 GE108 GE122)⟩)
)
·(
skip
refine Kd.R_lit_step Kd.string _ 9 ?hg (N := 23) ?hd (xs := ([a1] : List ByteArray)) (inner := [.string a1]) (ok := fun _ => True) (okp := fun _ => True) ?hr ?hp (fun _ hk => hk) trivial (Below.refl _ _) (Nat.le_refl _) (by simp) ?_; (case hd => rfl); (case hg => rfl); (case hr => first | (go_simp; done) | (go_simp; rfl)); (case hp => exact (Reps.one (show Kd.M Kd.string _ _ _ a1 [.string a1] from rfl) (Reps.none _ _)))
intro v117 w72 ho73 hb hg_ hnew_
clear hg_ hnew_
(first | rw [← Ny116.out] at ho73 | (simp only [Int.reduceToNat] at ho73; rw [← Ny116.out] at ho73))
have HO118 := am (Kd.R_lower ho73 (below_size (rb3 HB GE107 GE108 GE122)))
replace BK107 := am (blk_below (rk BK107) hb)
replace BK108 := am (blk_below (rk BK108) hb)
replace BK122 := am (blk_below (rk BK122) hb)
replace HB := am (below_step (rb3 HB GE107 GE108 GE122) hb)
clear hb ho73
refine hK.out _ _ (bc3 BK107) (fun hHeld => ?_)
clear hK K
refine norm_ (a' := _) (show Act.put _ (some 23) _ = _ from na) ?_
exact norm_ nz (hJ7_12 (v117, gb122) _ ⟨hHeld, (rr HO118), (rk BK107), (rk BK108), (rk BK122), GW122.out, GE122.out, NB107_122.out, NB122_107.out, NB108_122.out, NB122_108.out, (rb3 HB GE107 GE108 GE122)⟩)
)
)
)
·(
skip
rintro v117 w72 ⟨hHeld, h0_, h1_, h2_, h3_⟩
(try dsimp only at hHeld h0_ h1_ h2_ h3_)
have HO118 := am h0_; replace BK107 := am h1_; replace BK108 := am h2_; replace HB := am h3_
clear h0_ h1_ h2_ h3_
refine norm_ (a' := _) nr ?_
refine two_ (i := 2) (j := 12) (Ni := some 18) (Nj := some 6) (bm 14 1759) (bm 14 5851) rfl rfl rfl rfl (two_of HT_.out (by kernel_rfl)) (by decide) (by decide) (fun K hK => ?_) (fun K hK => ?_)
·(
skip
refine Kd.R_lit_step Kd.string _ 9 ?hg (N := 18) ?hd (xs := ([] : List ByteArray)) (inner := []) (ok := fun _ => True) (okp := fun _ => True) ?hr ?hp (fun _ hk => hk) trivial (Below.refl _ _) (Nat.le_refl _) (by simp) ?_; (case hd => rfl); (case hg => rfl); (case hr => first | (go_simp; done) | (go_simp; rfl)); (case hp => exact (Reps.none _ _))
intro v111 w73 ho74 hb hg_ hnew_
clear hg_ hnew_
(first | rw [← Ny110.out] at ho74 | (simp only [Int.reduceToNat] at ho74; rw [← Ny110.out] at ho74))
have HO112 := am (Kd.R_lower (Kd.R_new' ho74 (Kd.R_lt (rr HO118))) (below_size (rb2 HB GE107 GE108)))
replace HO118 := am (Kd.R_elder' (rr HO118) (Kd.R_base ho74) hb)
replace BK107 := am (blk_below (rk BK107) hb)
replace BK108 := am (blk_below (rk BK108) hb)
replace HB := am (below_step (rb2 HB GE107 GE108) hb)
clear hb ho74
refine hK.out _ _ (bc3 BK107) (fun hHeld => ?_)
clear hK K
refine norm_ (a' := _) (show Act.put _ (some 18) _ = _ from na) ?_
exact norm_ nz (hJ2_7 (v111, v117) _ ⟨hHeld, (rrm HO112), (rrm HO118), (rk BK107), (rk BK108), (rb2 HB GE107 GE108)⟩)
)
·(
skip
refine box_step ?hg (N := 6) ?hd (cs := #[.int .i64 0, .slice none 0 0, .int .i64 0]) (t := 26) ?hr ?_; (case hd => rfl); (case hg => rfl); (case hr => first | (go_simp; done) | (go_simp; rfl))
intro gb122 hg w73 hbox hb
replace HO118 := am (Kd.R_below (rr HO118) hb)
have BK122 := am (hbox)
have GW122 := am (gw hg (rb2 HB GE107 GE108))
have GE122 := GW122
replace HB := am (below_step (rb2 HB GE107 GE108) hb)
have NB107_122 := am (nl hg (rk BK107))
have NB122_107 := am (ng hg (rk BK107))
replace BK107 := am (blk_below (rk BK107) hb)
have NB108_122 := am (nl hg (rk BK108))
have NB122_108 := am (ng hg (rk BK108))
replace BK108 := am (blk_below (rk BK108) hb)
clear hb hbox hg
refine hK.out _ _ (bc3 BK107) (fun hHeld => ?_)
clear hK K
refine norm_ (a' := _) (show Act.put _ (some 6) _ = _ from na) ?_
exact norm_ nz (hJ7_12 (v117, gb122) _ ⟨hHeld, (rr HO118), (rk BK107), (rk BK108), (rk BK122), GW122.out, GE122.out, NB107_122.out, NB122_107.out, NB108_122.out, NB122_108.out, (rb3 HB GE107 GE108 GE122)⟩)
)
)
)
·(
skip
rintro v111 w72 ⟨hHeld, h0_, h1_, h2_, h3_⟩
(try dsimp only at hHeld h0_ h1_ h2_ h3_)
have HO112 := am h0_; replace BK107 := am h1_; replace BK108 := am h2_; replace HB := am h3_
clear h0_ h1_ h2_ h3_
refine norm_ (a' := _) nr ?_
refine three_ (i := 5) (j := 7) (k := 12) (Ni := some 21) (Nj := some 23) (Nk := some 6) (bm 14 1663) (bm 14 1759) (bm 14 5727) rfl rfl rfl rfl rfl rfl (three_of HT_.out (by kernel_rfl)) (by decide) (by decide) (by decide) (fun K hK => ?_) (fun K hK => ?_) (fun K hK => ?_)
·(
skip
refine Kd.R_append_rows_step Kd.string (w0 := w) w.heap.size (by rfl) (.tmp 18) (.tmp 20) 24 9 (.string ⟨#[]⟩) 16 rfl Try.underlying24 info9 rfl (by decide) (by omega) v111 y110 l0_1 _ _ _ (fun _ => True) (fun _ => False) rfl rfl ?aO ?aR (fun _ _ h => h) (fun _ h => h.elim) ?aF ?aB ?aS ?aL ?_
(case aR => repeat (first | exact (Kd.C_below HR0_1.out HB.out) | (with_reducible refine Kd.C_alloc ?_ _) | (with_reducible refine Kd.C_drewN ?_ _) | (with_reducible refine Kd.C_drew ?_)))
(case aB => exact (rb2 HB GE107 GE108))
(case aF => exact (fun _ _ => trivial))
(case aO => exact (rr HO112))
(case aS => exact (below_size (rb2 HB GE107 GE108)))
(case aL => have := LMc17.out; omega)
intro v114 w73 ho hb hg hat
rw [← Ny113.out] at ho
replace BK107 := am (blk_grown (rk BK107) hg (Kd.R_ne HO112.out BK107.out (by decide)))
replace BK108 := am (blk_grown (rk BK108) hg (Kd.R_ne HO112.out BK108.out (by decide)))
replace HB := am (hb)
have HO115 := am (ho)
clear HO112
clear ho hb hg hat
refine hK.out _ _ (bc3 BK107) (fun hHeld => ?_)
clear hK K
refine norm_ (a' := _) (show Act.put _ (some 21) _ = _ from na) ?_
exact norm_ nz (hJ2_5 (v111, v114) _ ⟨hHeld, (rr HO115), (rk BK107), (rk BK108), (rb2 HB GE107 GE108)⟩)
)
·(
skip
refine Kd.R_lit_step Kd.string _ 9 ?hg (N := 23) ?hd (xs := ([a1] : List ByteArray)) (inner := [.string a1]) (ok := fun _ => True) (okp := fun _ => True) ?hr ?hp (fun _ hk => hk) trivial (Below.refl _ _) (Nat.le_refl _) (by simp) ?_; (case hd => rfl); (case hg => rfl); (case hr => first | (go_simp; done) | (go_simp; rfl)); (case hp => exact (Reps.one (show Kd.M Kd.string _ _ _ a1 [.string a1] from rfl) (Reps.none _ _)))
intro v117 w73 ho74 hb hg_ hnew_
clear hg_ hnew_
(first | rw [← Ny116.out] at ho74 | (simp only [Int.reduceToNat] at ho74; rw [← Ny116.out] at ho74))
have HO118 := am (Kd.R_lower (Kd.R_new' ho74 (Kd.R_lt (rr HO112))) (below_size (rb2 HB GE107 GE108)))
replace HO112 := am (Kd.R_elder' (rr HO112) (Kd.R_base ho74) hb)
replace BK107 := am (blk_below (rk BK107) hb)
replace BK108 := am (blk_below (rk BK108) hb)
replace HB := am (below_step (rb2 HB GE107 GE108) hb)
clear hb ho74
refine hK.out _ _ (bc3 BK107) (fun hHeld => ?_)
clear hK K
refine norm_ (a' := _) (show Act.put _ (some 23) _ = _ from na) ?_
exact norm_ nz (hJ2_7 (v111, v117) _ ⟨hHeld, (rrm HO112), (rrm HO118), (rk BK107), (rk BK108), (rb2 HB GE107 GE108)⟩)
)
·(
skip
refine box_step ?hg (N := 6) ?hd (cs := #[.int .i64 0, .slice none 0 0, .int .i64 0]) (t := 26) ?hr ?_; (case hd => rfl); (case hg => rfl); (case hr => first | (go_simp; done) | (go_simp; rfl))
intro gb122 hg w73 hbox hb
replace HO112 := am (Kd.R_below (rr HO112) hb)
have BK122 := am (hbox)
have GW122 := am (gw hg (rb2 HB GE107 GE108))
have GE122 := GW122
replace HB := am (below_step (rb2 HB GE107 GE108) hb)
have NB107_122 := am (nl hg (rk BK107))
have NB122_107 := am (ng hg (rk BK107))
replace BK107 := am (blk_below (rk BK107) hb)
have NB108_122 := am (nl hg (rk BK108))
have NB122_108 := am (ng hg (rk BK108))
replace BK108 := am (blk_below (rk BK108) hb)
clear hb hbox hg
refine hK.out _ _ (bc3 BK107) (fun hHeld => ?_)
clear hK K
refine norm_ (a' := _) (show Act.put _ (some 6) _ = _ from na) ?_
exact norm_ nz (hJ2_12 (v111, gb122) _ ⟨hHeld, (rr HO112), (rk BK107), (rk BK108), (rk BK122), GW122.out, GE122.out, NB107_122.out, NB122_107.out, NB108_122.out, NB122_108.out, (rb3 HB GE107 GE108 GE122)⟩)
)
)
)
·(
skip
rintro ⟨v117, gb122⟩ w73 ⟨hHeld, h0_, h1_, h2_, h3_, h4_, h5_, h6_, h7_, h8_, h9_, h10_⟩
(try dsimp only at hHeld h0_ h1_ h2_ h3_ h4_ h5_ h6_ h7_ h8_ h9_ h10_)
have HO118 := am h0_; replace BK107 := am h1_; replace BK108 := am h2_; have BK122 := am h3_; have GW122 := am h4_; have GE122 := am h5_; have NB107_122 := am h6_; have NB122_107 := am h7_; have NB108_122 := am h8_; have NB122_108 := am h9_; replace HB := am h10_
clear h0_ h1_ h2_ h3_ h4_ h5_ h6_ h7_ h8_ h9_ h10_
refine norm_ (a' := _) nr ?_
refine one_ (i := 2) (N := some 18) (bm 14 5855) rfl rfl (one_of HT_.out (by kernel_rfl)) (by decide) (fun K hK => ?_)
refine Kd.R_lit_step Kd.string _ 9 ?hg (N := 18) ?hd (xs := ([] : List ByteArray)) (inner := []) (ok := fun _ => True) (okp := fun _ => True) ?hr ?hp (fun _ hk => hk) trivial (Below.refl _ _) (Nat.le_refl _) (by simp) ?_; (case hd => rfl); (case hg => rfl); (case hr => first | (go_simp; done) | (go_simp; rfl)); (case hp => exact (Reps.none _ _))
intro v111 w74 ho75 hb hg_ hnew_
clear hg_ hnew_
(first | rw [← Ny110.out] at ho75 | (simp only [Int.reduceToNat] at ho75; rw [← Ny110.out] at ho75))
have HO112 := am (Kd.R_lower (Kd.R_new' ho75 (Kd.R_lt (rr HO118))) (below_size (rb3 HB GE107 GE108 GE122)))
replace HO118 := am (Kd.R_elder' (rr HO118) (Kd.R_base ho75) hb)
replace BK107 := am (blk_below (rk BK107) hb)
replace BK108 := am (blk_below (rk BK108) hb)
replace BK122 := am (blk_below (rk BK122) hb)
replace HB := am (below_step (rb3 HB GE107 GE108 GE122) hb)
clear hb ho75
refine hK.out _ _ (bc3 BK107) (fun hHeld => ?_)
clear hK K
refine norm_ (a' := _) (show Act.put _ (some 18) _ = _ from na) ?_
exact norm_ nz (hJ2_7_12 (v111, v117, gb122) _ ⟨hHeld, (rrm HO112), (rrm HO118), (rk BK107), (rk BK108), (rk BK122), GW122.out, GE122.out, NB107_122.out, NB122_107.out, NB108_122.out, NB122_108.out, (rb3 HB GE107 GE108 GE122)⟩)
)
)
·(
skip
rintro ⟨v111, gb122⟩ w73 ⟨hHeld, h0_, h1_, h2_, h3_, h4_, h5_, h6_, h7_, h8_, h9_, h10_⟩
(try dsimp only at hHeld h0_ h1_ h2_ h3_ h4_ h5_ h6_ h7_ h8_ h9_ h10_)
have HO112 := am h0_; replace BK107 := am h1_; replace BK108 := am h2_; have BK122 := am h3_; have GW122 := am h4_; have GE122 := am h5_; have NB107_122 := am h6_; have NB122_107 := am h7_; have NB108_122 := am h8_; have NB122_108 := am h9_; replace HB := am h10_
clear h0_ h1_ h2_ h3_ h4_ h5_ h6_ h7_ h8_ h9_ h10_
refine norm_ (a' := _) nr ?_
refine two_ (i := 5) (j := 7) (Ni := some 21) (Nj := some 23) (bm 14 5759) (bm 14 5855) rfl rfl rfl rfl (two_of HT_.out (by kernel_rfl)) (by decide) (by decide) (fun K hK => ?_) (fun K hK => ?_)
·(
skip
refine Kd.R_append_rows_step Kd.string (w0 := w) w.heap.size (by rfl) (.tmp 18) (.tmp 20) 24 9 (.string ⟨#[]⟩) 16 rfl Try.underlying24 info9 rfl (by decide) (by omega) v111 y110 l0_1 _ _ _ (fun _ => True) (fun _ => False) rfl rfl ?aO ?aR (fun _ _ h => h) (fun _ h => h.elim) ?aF ?aB ?aS ?aL ?_
(case aR => repeat (first | exact (Kd.C_below HR0_1.out HB.out) | (with_reducible refine Kd.C_alloc ?_ _) | (with_reducible refine Kd.C_drewN ?_ _) | (with_reducible refine Kd.C_drew ?_)))
(case aB => exact (rb3 HB GE107 GE108 GE122))
(case aF => exact (fun _ _ => trivial))
(case aO => exact (rr HO112))
(case aS => exact (below_size (rb3 HB GE107 GE108 GE122)))
(case aL => have := LMc17.out; omega)
intro v114 w74 ho hb hg hat
rw [← Ny113.out] at ho
replace BK107 := am (blk_grown (rk BK107) hg (Kd.R_ne HO112.out BK107.out (by decide)))
replace BK108 := am (blk_grown (rk BK108) hg (Kd.R_ne HO112.out BK108.out (by decide)))
replace BK122 := am (blk_grown (rk BK122) hg (Kd.R_ne HO112.out BK122.out (by decide)))
replace HB := am (hb)
have HO115 := am (ho)
clear HO112
clear ho hb hg hat
refine hK.out _ _ (bc3 BK107) (fun hHeld => ?_)
clear hK K
refine norm_ (a' := _) (show Act.put _ (some 21) _ = _ from na) ?_
exact norm_ nz (hJ2_5_12 (v111, v114, gb122) _ ⟨hHeld, (rr HO115), (rk BK107), (rk BK108), (rk BK122), GW122.out, GE122.out, NB107_122.out, NB122_107.out, NB108_122.out, NB122_108.out, (rb3 HB GE107 GE108 GE122)⟩)
)
·(
skip
refine Kd.R_lit_step Kd.string _ 9 ?hg (N := 23) ?hd (xs := ([a1] : List ByteArray)) (inner := [.string a1]) (ok := fun _ => True) (okp := fun _ => True) ?hr ?hp (fun _ hk => hk) trivial (Below.refl _ _) (Nat.le_refl _) (by simp) ?_; (case hd => rfl); (case hg => rfl); (case hr => first | (go_simp; done) | (go_simp; rfl)); (case hp => exact (Reps.one (show Kd.M Kd.string _ _ _ a1 [.string a1] from rfl) (Reps.none _ _)))
intro v117 w74 ho75 hb hg_ hnew_
clear hg_ hnew_
(first | rw [← Ny116.out] at ho75 | (simp only [Int.reduceToNat] at ho75; rw [← Ny116.out] at ho75))
have HO118 := am (Kd.R_lower (Kd.R_new' ho75 (Kd.R_lt (rr HO112))) (below_size (rb3 HB GE107 GE108 GE122)))
replace HO112 := am (Kd.R_elder' (rr HO112) (Kd.R_base ho75) hb)
replace BK107 := am (blk_below (rk BK107) hb)
replace BK108 := am (blk_below (rk BK108) hb)
replace BK122 := am (blk_below (rk BK122) hb)
replace HB := am (below_step (rb3 HB GE107 GE108 GE122) hb)
clear hb ho75
refine hK.out _ _ (bc3 BK107) (fun hHeld => ?_)
clear hK K
refine norm_ (a' := _) (show Act.put _ (some 23) _ = _ from na) ?_
exact norm_ nz (hJ2_7_12 (v111, v117, gb122) _ ⟨hHeld, (rrm HO112), (rrm HO118), (rk BK107), (rk BK108), (rk BK122), GW122.out, GE122.out, NB107_122.out, NB122_107.out, NB108_122.out, NB122_108.out, (rb3 HB GE107 GE108 GE122)⟩)
)
)
)
·(
skip
rintro ⟨v111, v117⟩ w74 ⟨hHeld, h0_, h1_, h2_, h3_, h4_⟩
(try dsimp only at hHeld h0_ h1_ h2_ h3_ h4_)
have HO112 := am h0_; have HO118 := am h1_; replace BK107 := am h2_; replace BK108 := am h3_; replace HB := am h4_
clear h0_ h1_ h2_ h3_ h4_
refine norm_ (a' := _) nr ?_
refine two_ (i := 5) (j := 12) (Ni := some 21) (Nj := some 6) (bm 14 1791) (bm 14 5855) rfl rfl rfl rfl (two_of HT_.out (by kernel_rfl)) (by decide) (by decide) (fun K hK => ?_) (fun K hK => ?_)
·(
skip
refine Kd.R_append_rows_step Kd.string (w0 := w) w.heap.size (by rfl) (.tmp 18) (.tmp 20) 24 9 (.string ⟨#[]⟩) 16 rfl Try.underlying24 info9 rfl (by decide) (by omega) v111 y110 l0_1 _ _ _ (fun k_ => some k_ ≠ (v117 : Value).ownBlock) (fun _ => False) rfl rfl ?aO ?aR (fun _ _ h => h) (fun _ h => h.elim) ?aF ?aB ?aS ?aL ?_
(case aR => repeat (first | exact (Kd.C_below HR0_1.out HB.out) | (with_reducible refine Kd.C_alloc ?_ _) | (with_reducible refine Kd.C_drewN ?_ _) | (with_reducible refine Kd.C_drew ?_)))
(case aB => exact (rb2 HB GE107 GE108))
(case aF => exact (fun k_ hk => Kd.fresh' (Kd.R_lt (rr HO118)) k_ hk))
(case aO => exact (rr HO112))
(case aS => exact (below_size (rb2 HB GE107 GE108)))
(case aL => have := LMc17.out; omega)
intro v114 w75 ho hb hg hat
rw [← Ny113.out] at ho
replace BK107 := am (blk_grown (rk BK107) hg (Kd.R_ne HO112.out BK107.out (by decide)))
replace BK108 := am (blk_grown (rk BK108) hg (Kd.R_ne HO112.out BK108.out (by decide)))
replace HO118 := am (Kd.R_after (ok := (fun _ => True)) (by (with_reducible repeat (first | apply r1 | apply r2 | apply r3)); exact Kd.R_mono HO118.out (fun _ hk => ⟨trivial, hk⟩)) hg hat)
replace HB := am (hb)
have HO115 := am (ho)
clear HO112
clear ho hb hg hat
refine hK.out _ _ (bc3 BK107) (fun hHeld => ?_)
clear hK K
refine norm_ (a' := _) (show Act.put _ (some 21) _ = _ from na) ?_
exact norm_ nz (hJ2_5_7 (v111, v114, v117) _ ⟨hHeld, (rr HO115), (rrm HO118), (rk BK107), (rk BK108), (rb2 HB GE107 GE108)⟩)
)
·(
skip
refine box_step ?hg (N := 6) ?hd (cs := #[.int .i64 0, .slice none 0 0, .int .i64 0]) (t := 26) ?hr ?_; (case hd => rfl); (case hg => rfl); (case hr => first | (go_simp; done) | (go_simp; rfl))
intro gb122 hg w75 hbox hb
replace HO112 := am (Kd.R_below (rr HO112) hb)
replace HO118 := am (Kd.R_below (rr HO118) hb)
have BK122 := am (hbox)
have GW122 := am (gw hg (rb2 HB GE107 GE108))
have GE122 := GW122
replace HB := am (below_step (rb2 HB GE107 GE108) hb)
have NB107_122 := am (nl hg (rk BK107))
have NB122_107 := am (ng hg (rk BK107))
replace BK107 := am (blk_below (rk BK107) hb)
have NB108_122 := am (nl hg (rk BK108))
have NB122_108 := am (ng hg (rk BK108))
replace BK108 := am (blk_below (rk BK108) hb)
clear hb hbox hg
refine hK.out _ _ (bc3 BK107) (fun hHeld => ?_)
clear hK K
refine norm_ (a' := _) (show Act.put _ (some 6) _ = _ from na) ?_
exact norm_ nz (hJ2_7_12 (v111, v117, gb122) _ ⟨hHeld, (rr HO112), (rr HO118), (rk BK107), (rk BK108), (rk BK122), GW122.out, GE122.out, NB107_122.out, NB122_107.out, NB108_122.out, NB122_108.out, (rb3 HB GE107 GE108 GE122)⟩)
)
)
)
·(
skip
rintro ⟨v111, v114⟩ w73 ⟨hHeld, h0_, h1_, h2_, h3_⟩
(try dsimp only at hHeld h0_ h1_ h2_ h3_)
have HO115 := am h0_; replace BK107 := am h1_; replace BK108 := am h2_; replace HB := am h3_
clear h0_ h1_ h2_ h3_
refine norm_ (a' := _) nr ?_
refine two_ (i := 7) (j := 12) (Ni := some 23) (Nj := some 6) (bm 14 1791) (bm 14 5759) rfl rfl rfl rfl (two_of HT_.out (by kernel_rfl)) (by decide) (by decide) (fun K hK => ?_) (fun K hK => ?_)
·(
skip
refine Kd.R_lit_step Kd.string _ 9 ?hg (N := 23) ?hd (xs := ([a1] : List ByteArray)) (inner := [.string a1]) (ok := fun _ => True) (okp := fun _ => True) ?hr ?hp (fun _ hk => hk) trivial (Below.refl _ _) (Nat.le_refl _) (by simp) ?_; (case hd => rfl); (case hg => rfl); (case hr => first | (go_simp; done) | (go_simp; rfl)); (case hp => exact (Reps.one (show Kd.M Kd.string _ _ _ a1 [.string a1] from rfl) (Reps.none _ _)))
intro v117 w74 ho75 hb hg_ hnew_
clear hg_ hnew_
(first | rw [← Ny116.out] at ho75 | (simp only [Int.reduceToNat] at ho75; rw [← Ny116.out] at ho75))
have HO118 := am (Kd.R_lower (Kd.R_new' ho75 (Kd.R_lt (rr HO115))) (below_size (rb2 HB GE107 GE108)))
replace HO115 := am (Kd.R_elder' (rr HO115) (Kd.R_base ho75) hb)
replace BK107 := am (blk_below (rk BK107) hb)
replace BK108 := am (blk_below (rk BK108) hb)
replace HB := am (below_step (rb2 HB GE107 GE108) hb)
clear hb ho75
refine hK.out _ _ (bc3 BK107) (fun hHeld => ?_)
clear hK K
refine norm_ (a' := _) (show Act.put _ (some 23) _ = _ from na) ?_
exact norm_ nz (hJ2_5_7 (v111, v114, v117) _ ⟨hHeld, (rrm HO115), (rrm HO118), (rk BK107), (rk BK108), (rb2 HB GE107 GE108)⟩)
)
·(
skip
refine box_step ?hg (N := 6) ?hd (cs := #[.int .i64 0, .slice none 0 0, .int .i64 0]) (t := 26) ?hr ?_; (case hd => rfl); (case hg => rfl); (case hr => first | (go_simp; done) | (go_simp; rfl))
intro gb122 hg w74 hbox hb
replace HO115 := am (Kd.R_below (rr HO115) hb)
have BK122 := am (hbox)
have GW122 := am (gw hg (rb2 HB GE107 GE108))
have GE122 := GW122
replace HB := am (below_step (rb2 HB GE107 GE108) hb)
have NB107_122 := am (nl hg (rk BK107))
have NB122_107 := am (ng hg (rk BK107))
replace BK107 := am (blk_below (rk BK107) hb)
have NB108_122 := am (nl hg (rk BK108))
have NB122_108 := am (ng hg (rk BK108))
replace BK108 := am (blk_below (rk BK108) hb)
clear hb hbox hg
refine hK.out _ _ (bc3 BK107) (fun hHeld => ?_)
clear hK K
refine norm_ (a' := _) (show Act.put _ (some 6) _ = _ from na) ?_
exact norm_ nz (hJ2_5_12 (v111, v114, gb122) _ ⟨hHeld, (rr HO115), (rk BK107), (rk BK108), (rk BK122), GW122.out, GE122.out, NB107_122.out, NB122_107.out, NB108_122.out, NB122_108.out, (rb3 HB GE107 GE108 GE122)⟩)
)
)
)
·(
skip
rintro ⟨v111, v117, gb122⟩ w75 ⟨hHeld, h0_, h1_, h2_, h3_, h4_, h5_, h6_, h7_, h8_, h9_, h10_, h11_⟩
(try dsimp only at hHeld h0_ h1_ h2_ h3_ h4_ h5_ h6_ h7_ h8_ h9_ h10_ h11_)
have HO112 := am h0_; have HO118 := am h1_; replace BK107 := am h2_; replace BK108 := am h3_; have BK122 := am h4_; have GW122 := am h5_; have GE122 := am h6_; have NB107_122 := am h7_; have NB122_107 := am h8_; have NB108_122 := am h9_; have NB122_108 := am h10_; replace HB := am h11_
clear h0_ h1_ h2_ h3_ h4_ h5_ h6_ h7_ h8_ h9_ h10_ h11_
refine norm_ (a' := _) nr ?_
refine one_ (i := 5) (N := some 21) (bm 14 5887) rfl rfl (one_of HT_.out (by kernel_rfl)) (by decide) (fun K hK => ?_)
refine Kd.R_append_rows_step Kd.string (w0 := w) w.heap.size (by rfl) (.tmp 18) (.tmp 20) 24 9 (.string ⟨#[]⟩) 16 rfl Try.underlying24 info9 rfl (by decide) (by omega) v111 y110 l0_1 _ _ _ (fun k_ => some k_ ≠ (v117 : Value).ownBlock) (fun _ => False) rfl rfl ?aO ?aR (fun _ _ h => h) (fun _ h => h.elim) ?aF ?aB ?aS ?aL ?_
(case aR => repeat (first | exact (Kd.C_below HR0_1.out HB.out) | (with_reducible refine Kd.C_alloc ?_ _) | (with_reducible refine Kd.C_drewN ?_ _) | (with_reducible refine Kd.C_drew ?_)))
(case aB => exact (rb3 HB GE107 GE108 GE122))
(case aF => exact (fun k_ hk => Kd.fresh' (Kd.R_lt (rr HO118)) k_ hk))
(case aO => exact (rr HO112))
(case aS => exact (below_size (rb3 HB GE107 GE108 GE122)))
(case aL => have := LMc17.out; omega)
intro v114 w76 ho hb hg hat
rw [← Ny113.out] at ho
replace BK107 := am (blk_grown (rk BK107) hg (Kd.R_ne HO112.out BK107.out (by decide)))
replace BK108 := am (blk_grown (rk BK108) hg (Kd.R_ne HO112.out BK108.out (by decide)))
replace HO118 := am (Kd.R_after (ok := (fun _ => True)) (by (with_reducible repeat (first | apply r1 | apply r2 | apply r3)); exact Kd.R_mono HO118.out (fun _ hk => ⟨trivial, hk⟩)) hg hat)
replace BK122 := am (blk_grown (rk BK122) hg (Kd.R_ne HO112.out BK122.out (by decide)))
replace HB := am (hb)
have HO115 := am (ho)
clear HO112
clear ho hb hg hat
refine hK.out _ _ (bc3 BK107) (fun hHeld => ?_)
clear hK K
refine norm_ (a' := _) (show Act.put _ (some 21) _ = _ from na) ?_
exact norm_ nz (hJ2_5_7_12 (v111, v114, v117, gb122) _ ⟨hHeld, (rr HO115), (rrm HO118), (rk BK107), (rk BK108), (rk BK122), GW122.out, GE122.out, NB107_122.out, NB122_107.out, NB108_122.out, NB122_108.out, (rb3 HB GE107 GE108 GE122)⟩)
)
)
·(
skip
rintro ⟨v111, v114, gb122⟩ w74 ⟨hHeld, h0_, h1_, h2_, h3_, h4_, h5_, h6_, h7_, h8_, h9_, h10_⟩
(try dsimp only at hHeld h0_ h1_ h2_ h3_ h4_ h5_ h6_ h7_ h8_ h9_ h10_)
have HO115 := am h0_; replace BK107 := am h1_; replace BK108 := am h2_; have BK122 := am h3_; have GW122 := am h4_; have GE122 := am h5_; have NB107_122 := am h6_; have NB122_107 := am h7_; have NB108_122 := am h8_; have NB122_108 := am h9_; replace HB := am h10_
clear h0_ h1_ h2_ h3_ h4_ h5_ h6_ h7_ h8_ h9_ h10_
refine norm_ (a' := _) nr ?_
refine one_ (i := 7) (N := some 23) (bm 14 5887) rfl rfl (one_of HT_.out (by kernel_rfl)) (by decide) (fun K hK => ?_)
refine Kd.R_lit_step Kd.string _ 9 ?hg (N := 23) ?hd (xs := ([a1] : List ByteArray)) (inner := [.string a1]) (ok := fun _ => True) (okp := fun _ => True) ?hr ?hp (fun _ hk => hk) trivial (Below.refl _ _) (Nat.le_refl _) (by simp) ?_; (case hd => rfl); (case hg => rfl); (case hr => first | (go_simp; done) | (go_simp; rfl)); (case hp => exact (Reps.one (show Kd.M Kd.string _ _ _ a1 [.string a1] from rfl) (Reps.none _ _)))
intro v117 w75 ho76 hb hg_ hnew_
clear hg_ hnew_
(first | rw [← Ny116.out] at ho76 | (simp only [Int.reduceToNat] at ho76; rw [← Ny116.out] at ho76))
have HO118 := am (Kd.R_lower (Kd.R_new' ho76 (Kd.R_lt (rr HO115))) (below_size (rb3 HB GE107 GE108 GE122)))
replace HO115 := am (Kd.R_elder' (rr HO115) (Kd.R_base ho76) hb)
replace BK107 := am (blk_below (rk BK107) hb)
replace BK108 := am (blk_below (rk BK108) hb)
replace BK122 := am (blk_below (rk BK122) hb)
replace HB := am (below_step (rb3 HB GE107 GE108 GE122) hb)
clear hb ho76
refine hK.out _ _ (bc3 BK107) (fun hHeld => ?_)
clear hK K
refine norm_ (a' := _) (show Act.put _ (some 23) _ = _ from na) ?_
exact norm_ nz (hJ2_5_7_12 (v111, v114, v117, gb122) _ ⟨hHeld, (rrm HO115), (rrm HO118), (rk BK107), (rk BK108), (rk BK122), GW122.out, GE122.out, NB107_122.out, NB122_107.out, NB108_122.out, NB122_108.out, (rb3 HB GE107 GE108 GE122)⟩)
)
)
·(
skip
rintro ⟨v111, v114, v117⟩ w75 ⟨hHeld, h0_, h1_, h2_, h3_, h4_⟩
(try dsimp only at hHeld h0_ h1_ h2_ h3_ h4_)
have HO115 := am h0_; have HO118 := am h1_; replace BK107 := am h2_; replace BK108 := am h3_; replace HB := am h4_
clear h0_ h1_ h2_ h3_ h4_
obtain ⟨Ao77, co77, eo77⟩ := Kd.R_slice HO118.out
(first | subst eo77 | (injection eo77 with f1_ f2_ f3_; have f4_ := f1_.symm; have f5_ := f3_.symm; clear f1_ f2_ f3_; subst f4_; subst f5_))
refine norm_ (a' := _) nr ?_
refine two_ (i := 8) (j := 12) (Ni := some 24) (Nj := some 6) (bm 14 2047) (bm 14 5887) rfl rfl rfl rfl (two_of HT_.out (by kernel_rfl)) (by decide) (by decide) (fun K hK => ?_) (fun K hK => ?_)
·(
skip
refine Kd.R_append_rows_step Kd.string (w0 := w) w.heap.size (by rfl) (.tmp 21) (.tmp 23) 24 9 (.string ⟨#[]⟩) 16 rfl Try.underlying24 info9 rfl (by decide) (by omega) v114 y113 y116 _ _ _ (fun k_ => some k_ ≠ (.slice Ao77 y116.length co77 : Value).ownBlock) (fun _ => False) rfl rfl ?aO ?aR (fun _ _ h => h) (fun _ h => h.elim) ?aF ?aB ?aS ?aL ?_
(case aR => repeat (first | exact (Kd.R_reads' HO118.out).2.2 | (with_reducible refine Kd.C_alloc ?_ _) | (with_reducible refine Kd.C_drewN ?_ _) | (with_reducible refine Kd.C_drew ?_)))
(case aB => exact (rb2 HB GE107 GE108))
(case aF => exact (fun k_ hk => Kd.fresh' (Kd.R_lt (rr HO118)) k_ hk))
(case aO => exact (rr HO115))
(case aS => exact (below_size (rb2 HB GE107 GE108)))
(case aL => have := LMc18.out; omega)
intro v120 w76 ho hb hg hat
rw [← Ny119.out] at ho
replace BK107 := am (blk_grown (rk BK107) hg (Kd.R_ne HO115.out BK107.out (by decide)))
replace BK108 := am (blk_grown (rk BK108) hg (Kd.R_ne HO115.out BK108.out (by decide)))
replace HO118 := am (Kd.R_after (ok := (fun _ => True)) (by (with_reducible repeat (first | apply r1 | apply r2 | apply r3)); exact Kd.R_mono HO118.out (fun _ hk => ⟨trivial, hk⟩)) hg hat)
replace HB := am (hb)
have HO121 := am (ho)
clear HO115
clear ho hb hg hat
obtain ⟨Ao78, co78, eo78⟩ := Kd.R_slice HO121.out
(first | subst eo78 | (injection eo78 with f1_ f2_ f3_; have f4_ := f1_.symm; have f5_ := f3_.symm; clear f1_ f2_ f3_; subst f4_; subst f5_))
refine hK.out _ _ (bc3 BK107) (fun hHeld => ?_)
clear hK K
refine norm_ (a' := _) (show Act.put _ (some 24) _ = _ from na) ?_
refine pu_ 11 27 (bm 14 4095) HT_.out ?_
exact norm_ nz (hJ2_5_7_8 (v111, v114, .slice Ao77 y116.length co77, .slice Ao78 y119.length co78) _ ⟨hHeld, (rrm HO118), (rr HO121), (rk BK107), (rk BK108), (rb2 HB GE107 GE108)⟩)
)
·(
skip
refine box_step ?hg (N := 6) ?hd (cs := #[.int .i64 0, .slice none 0 0, .int .i64 0]) (t := 26) ?hr ?_; (case hd => rfl); (case hg => rfl); (case hr => first | (go_simp; done) | (go_simp; rfl))
intro gb122 hg w76 hbox hb
replace HO115 := am (Kd.R_below (rr HO115) hb)
replace HO118 := am (Kd.R_below (rr HO118) hb)
have BK122 := am (hbox)
have GW122 := am (gw hg (rb2 HB GE107 GE108))
have GE122 := GW122
replace HB := am (below_step (rb2 HB GE107 GE108) hb)
have NB107_122 := am (nl hg (rk BK107))
have NB122_107 := am (ng hg (rk BK107))
replace BK107 := am (blk_below (rk BK107) hb)
have NB108_122 := am (nl hg (rk BK108))
have NB122_108 := am (ng hg (rk BK108))
replace BK108 := am (blk_below (rk BK108) hb)
clear hb hbox hg
refine hK.out _ _ (bc3 BK107) (fun hHeld => ?_)
clear hK K
refine norm_ (a' := _) (show Act.put _ (some 6) _ = _ from na) ?_
exact norm_ nz (hJ2_5_7_12 (v111, v114, .slice Ao77 y116.length co77, gb122) _ ⟨hHeld, (rr HO115), (rr HO118), (rk BK107), (rk BK108), (rk BK122), GW122.out, GE122.out, NB107_122.out, NB122_107.out, NB108_122.out, NB122_108.out, (rb3 HB GE107 GE108 GE122)⟩)
)
)
)
·(
skip
rintro ⟨v111, v114, v117, gb122⟩ w76 ⟨hHeld, h0_, h1_, h2_, h3_, h4_, h5_, h6_, h7_, h8_, h9_, h10_, h11_⟩
(try dsimp only at hHeld h0_ h1_ h2_ h3_ h4_ h5_ h6_ h7_ h8_ h9_ h10_ h11_)
have HO115 := am h0_; have HO118 := am h1_; replace BK107 := am h2_; replace BK108 := am h3_; have BK122 := am h4_; have GW122 := am h5_; have GE122 := am h6_; have NB107_122 := am h7_; have NB122_107 := am h8_; have NB108_122 := am h9_; have NB122_108 := am h10_; replace HB := am h11_
clear h0_ h1_ h2_ h3_ h4_ h5_ h6_ h7_ h8_ h9_ h10_ h11_
obtain ⟨Ao78, co78, eo78⟩ := Kd.R_slice HO118.out
(first | subst eo78 | (injection eo78 with f1_ f2_ f3_; have f4_ := f1_.symm; have f5_ := f3_.symm; clear f1_ f2_ f3_; subst f4_; subst f5_))
refine norm_ (a' := _) nr ?_
refine one_ (i := 8) (N := some 24) (bm 14 6143) rfl rfl (one_of HT_.out (by kernel_rfl)) (by decide) (fun K hK => ?_)
refine Kd.R_append_rows_step Kd.string (w0 := w) w.heap.size (by rfl) (.tmp 21) (.tmp 23) 24 9 (.string ⟨#[]⟩) 16 rfl Try.underlying24 info9 rfl (by decide) (by omega) v114 y113 y116 _ _ _ (fun k_ => some k_ ≠ (.slice Ao78 y116.length co78 : Value).ownBlock) (fun _ => False) rfl rfl ?aO ?aR (fun _ _ h => h) (fun _ h => h.elim) ?aF ?aB ?aS ?aL ?_
(case aR => repeat (first | exact (Kd.R_reads' HO118.out).2.2 | (with_reducible refine Kd.C_alloc ?_ _) | (with_reducible refine Kd.C_drewN ?_ _) | (with_reducible refine Kd.C_drew ?_)))
(case aB => exact (rb3 HB GE107 GE108 GE122))
(case aF => exact (fun k_ hk => Kd.fresh' (Kd.R_lt (rr HO118)) k_ hk))
(case aO => exact (rr HO115))
(case aS => exact (below_size (rb3 HB GE107 GE108 GE122)))
(case aL => have := LMc18.out; omega)
intro v120 w77 ho hb hg hat
rw [← Ny119.out] at ho
replace BK107 := am (blk_grown (rk BK107) hg (Kd.R_ne HO115.out BK107.out (by decide)))
replace BK108 := am (blk_grown (rk BK108) hg (Kd.R_ne HO115.out BK108.out (by decide)))
replace HO118 := am (Kd.R_after (ok := (fun _ => True)) (by (with_reducible repeat (first | apply r1 | apply r2 | apply r3)); exact Kd.R_mono HO118.out (fun _ hk => ⟨trivial, hk⟩)) hg hat)
replace BK122 := am (blk_grown (rk BK122) hg (Kd.R_ne HO115.out BK122.out (by decide)))
replace HB := am (hb)
have HO121 := am (ho)
clear HO115
clear ho hb hg hat
obtain ⟨Ao79, co79, eo79⟩ := Kd.R_slice HO121.out
(first | subst eo79 | (injection eo79 with f1_ f2_ f3_; have f4_ := f1_.symm; have f5_ := f3_.symm; clear f1_ f2_ f3_; subst f4_; subst f5_))
refine hK.out _ _ (bc3 BK107) (fun hHeld => ?_)
clear hK K
refine norm_ (a' := _) (show Act.put _ (some 24) _ = _ from na) ?_
refine pu_ 11 27 (bm 14 8191) HT_.out ?_
exact norm_ nz (hJ2_5_7_8_12 (v111, v114, .slice Ao78 y116.length co78, .slice Ao79 y119.length co79, gb122) _ ⟨hHeld, (rrm HO118), (rr HO121), (rk BK107), (rk BK108), (rk BK122), GW122.out, GE122.out, NB107_122.out, NB122_107.out, NB108_122.out, NB122_108.out, (rb3 HB GE107 GE108 GE122)⟩)
)
)
·(
skip
rintro ⟨v111, v114, v117, v120⟩ w78 ⟨hHeld, h0_, h1_, h2_, h3_, h4_⟩
(try dsimp only at hHeld h0_ h1_ h2_ h3_ h4_)
have HO118 := am h0_; have HO121 := am h1_; replace BK107 := am h2_; replace BK108 := am h3_; replace HB := am h4_
clear h0_ h1_ h2_ h3_ h4_
obtain ⟨Ao79, co79, eo79⟩ := Kd.R_slice HO121.out
(first | subst eo79 | (injection eo79 with f1_ f2_ f3_; have f4_ := f1_.symm; have f5_ := f3_.symm; clear f1_ f2_ f3_; subst f4_; subst f5_))
refine norm_ (a' := _) nr ?_
refine one_ (i := 12) (N := some 6) (bm 14 8191) rfl rfl (one_of HT_.out (by kernel_rfl)) (by decide) (fun K hK => ?_)
refine box_step ?hg (N := 6) ?hd (cs := #[.int .i64 0, .slice none 0 0, .int .i64 0]) (t := 26) ?hr ?_; (case hd => rfl); (case hg => rfl); (case hr => first | (go_simp; done) | (go_simp; rfl))
intro gb122 hg w80 hbox hb
replace HO118 := am (Kd.R_below (rr HO118) hb)
replace HO121 := am (Kd.R_below (rr HO121) hb)
have BK122 := am (hbox)
have GW122 := am (gw hg (rb2 HB GE107 GE108))
have GE122 := GW122
replace HB := am (below_step (rb2 HB GE107 GE108) hb)
have NB107_122 := am (nl hg (rk BK107))
have NB122_107 := am (ng hg (rk BK107))
replace BK107 := am (blk_below (rk BK107) hb)
have NB108_122 := am (nl hg (rk BK108))
have NB122_108 := am (ng hg (rk BK108))
replace BK108 := am (blk_below (rk BK108) hb)
clear hb hbox hg
refine hK.out _ _ (bc3 BK107) (fun hHeld => ?_)
clear hK K
refine norm_ (a' := _) (show Act.put _ (some 6) _ = _ from na) ?_
exact norm_ nz (hJ2_5_7_8_12 (v111, v114, v117, .slice Ao79 y119.length co79, gb122) _ ⟨hHeld, (rr HO118), (rr HO121), (rk BK107), (rk BK108), (rk BK122), GW122.out, GE122.out, NB107_122.out, NB122_107.out, NB108_122.out, NB122_108.out, (rb3 HB GE107 GE108 GE122)⟩)
)
)
rintro ⟨v111, v114, v117, v120, gb122⟩ w79 ⟨hHeld, h0_, h1_, h2_, h3_, h4_, h5_, h6_, h7_, h8_, h9_, h10_, h11_⟩
(try dsimp only at hHeld h0_ h1_ h2_ h3_ h4_ h5_ h6_ h7_ h8_ h9_ h10_ h11_)
have HO118 := am h0_; have HO121 := am h1_; replace BK107 := am h2_; replace BK108 := am h3_; have BK122 := am h4_; have GW122 := am h5_; have GE122 := am h6_; have NB107_122 := am h7_; have NB122_107 := am h8_; have NB108_122 := am h9_; have NB122_108 := am h10_; replace HB := am h11_
clear h0_ h1_ h2_ h3_ h4_ h5_ h6_ h7_ h8_ h9_ h10_ h11_
obtain ⟨Ao80, co80, eo80⟩ := Kd.R_slice HO121.out
(first | subst eo80 | (injection eo80 with f1_ f2_ f3_; have f4_ := f1_.symm; have f5_ := f3_.symm; clear f1_ f2_ f3_; subst f4_; subst f5_))
refine norm_ (a' := _) nr ?_
refine one_ (i := 13) (N := none) (bm 14 16383) rfl rfl (one_of HT_.out (by kernel_rfl)) (by decide) (fun K hK => ?_)
have hs81 : w79.cell? ⟨gb122, 0, none⟩ = some (.int .i64 0) := (blk_cell BK122.out 0).trans rfl
have hfs81 := blk_frozen BK122.out 0
have hns81_0 := NB107_122.out
have hns81_1 := NB108_122.out
have hms81_0 := NB122_107.out
have hms81_1 := NB122_108.out
have hs82 : w79.cell? ⟨gb122, 1, none⟩ = some (.slice none 0 0) := (blk_cell BK122.out 1).trans rfl
have hfs82 := blk_frozen BK122.out 1
have hns82_0 := NB107_122.out
have hns82_1 := NB108_122.out
have hms82_0 := NB122_107.out
have hms82_1 := NB122_108.out
have hs83 : w79.cell? ⟨gb122, 2, none⟩ = some (.int .i64 0) := (blk_cell BK122.out 2).trans rfl
have hfs83 := blk_frozen BK122.out 2
have hns83_0 := NB107_122.out
have hns83_1 := NB108_122.out
have hms83_0 := NB122_107.out
have hms83_1 := NB122_108.out
refine skip_ (w1 := ?_) (by rfl) rfl ?_ ?_
rotate_left
·(
go_simp
rfl
)
refine hK.out _ _ ⟨((cell_far (p := ⟨gb122, _, none⟩) NB107_122.out _).trans (((cell_far (p := ⟨gb122, _, none⟩) NB107_122.out _).trans (((cell_far (p := ⟨gb122, _, none⟩) NB107_122.out _).trans (hHeld.1)))))), ((cell_far (p := ⟨gb122, _, none⟩) NB107_122.out _).trans (((cell_far (p := ⟨gb122, _, none⟩) NB107_122.out _).trans (((cell_far (p := ⟨gb122, _, none⟩) NB107_122.out _).trans (hHeld.2.1)))))), ((cell_far (p := ⟨gb122, _, none⟩) NB107_122.out _).trans (((cell_far (p := ⟨gb122, _, none⟩) NB107_122.out _).trans (((cell_far (p := ⟨gb122, _, none⟩) NB107_122.out _).trans (hHeld.2.2))))))⟩ (fun hHeld => ?_)
clear hK K
refine done_ (done_of HT_.out (by kernel_rfl)) ?_
have hnb84 := NB122_107.out
have hnc84 := NB107_122.out
have hnb85 := NB122_108.out
have hnc85 := NB108_122.out
have hcz86_0 : w79.cell? ⟨gb122, 0, none⟩ = some (.int .i64 0) := (blk_cell BK122.out 0).trans rfl
have hcz86_1 : w79.cell? ⟨gb122, 1, none⟩ = some (.slice none 0 0) := (blk_cell BK122.out 1).trans rfl
have hcz86_2 : w79.cell? ⟨gb122, 2, none⟩ = some (.int .i64 0) := (blk_cell BK122.out 2).trans rfl
have hfz86_0 := blk_frozen BK122.out 0
have hfz86_1 := blk_frozen BK122.out 1
have hfz86_2 := blk_frozen BK122.out 2
have hnb87 := NB107_108.out
have hnc87 := NB108_107.out
have hcz88_0 : w79.cell? ⟨gb107, 0, none⟩ = some (.int .i64 a0_0) := (blk_cell BK107.out 0).trans rfl
have hcz88_1 : w79.cell? ⟨gb107, 1, none⟩ = some (.slice A0_1 l0_1.length c0_1) := (blk_cell BK107.out 1).trans rfl
have hcz88_2 : w79.cell? ⟨gb107, 2, none⟩ = some (.int .i64 a0_2) := (blk_cell BK107.out 2).trans rfl
have hfz88_0 := blk_frozen BK107.out 0
have hfz88_1 := blk_frozen BK107.out 1
have hfz88_2 := blk_frozen BK107.out 2
have hcz89_0 : w79.cell? ⟨gb108, 0, none⟩ = some (.int .i64 0) := (blk_cell BK108.out 0).trans rfl
have hcz89_1 : w79.cell? ⟨gb108, 1, none⟩ = some (.slice none 0 0) := (blk_cell BK108.out 1).trans rfl
have hcz89_2 : w79.cell? ⟨gb108, 2, none⟩ = some (.int .i64 0) := (blk_cell BK108.out 2).trans rfl
have hfz89_0 := blk_frozen BK108.out 0
have hfz89_1 := blk_frozen BK108.out 1
have hfz89_2 := blk_frozen BK108.out 2
try go_wp2
refine bodyPost_ret (results_ct rfl _ _ gb108 26 #[.int .i64 0, .slice none 0 0, .int .i64 0] (0, 0) _ rfl (by (with_reducible repeat (first | apply k1 | apply k2 | apply k3)); refine blk_put (cs := #[.int .i64 0, .slice none 0 0, .int .i64 0]) ?_ 2 _ rfl; (with_reducible repeat (first | apply k1 | apply k2 | apply k3)); refine blk_put (cs := #[.int .i64 0, .slice none 0 0, .int .i64 0]) ?_ 1 _ rfl; (with_reducible repeat (first | apply k1 | apply k2 | apply k3)); refine blk_put (cs := #[.int .i64 0, .slice none 0 0, .int .i64 0]) ?_ 0 _ rfl; (with_reducible repeat (first | apply k1 | apply k2 | apply k3)); refine blk_far ?_ NB108_122.out _; (with_reducible repeat (first | apply k1 | apply k2 | apply k3)); refine blk_far ?_ NB108_122.out _; (with_reducible repeat (first | apply k1 | apply k2 | apply k3)); refine blk_far ?_ NB108_122.out _; (with_reducible repeat (first | apply k1 | apply k2 | apply k3)); exact BK108.out) Try.underlying26 rfl (by kernel_rfl)) rfl ?_
exact ⟨_, by first | rfl | (simp [errW_none, errW_some] <;> rfl) | (simp [*, errW_none, errW_some] <;> rfl), Kd.Q_of_R (by first | exact Kd.R_nil _ _ _ _ _ | exact Kd.N_nil _ _ _ _ _ | exact Kd.V_nil _ _ _ _ _ | exact Kd.Q_nil _ _ _ _ _ | exact Kd.S_nil _ _ _ _ _), rb3 HB GE107 GE108 GE122⟩
)
·(
rw [if_neg c68] at H
have c68b0 : decide (1000000 < a0_2) = false := decide_eq_false c68
clear c68
simp only [Option.some.injEq, Prod.mk.injEq] at H
obtain ⟨rfl, rfl, rfl, rfl⟩ := H
try go_wp2
replace BK107 := am (blk_drew BK107.out)
replace BK108 := am (blk_drew BK108.out)
replace HB := am (below_drew1 HB.out)
refine start_ (n := 14) (S := fun w' => w'.cell? ⟨gb107, 0, none⟩ = some (.int .i64 a0_0) ∧ w'.cell? ⟨gb107, 1, none⟩ = some (.slice A0_1 l0_1.length c0_1) ∧ w'.cell? ⟨gb107, 2, none⟩ = some (.int .i64 a0_2)) (ds := []) (bm 14 0) (by kernel_rfl) rfl rfl (bc3 BK107) (fun hHeld => ?_); refine with_tabW spec_Keep.tab3 spec_Keep.bits3 (fun HT_ HW_ => ?_)
generalize wc.drew = w90 at BK107 BK108 HB hHeld ⊢
refine pu_ 0 16 (bm 14 1) HT_.out ?_
refine pu_ 3 19 (bm 14 9) HT_.out ?_
refine pu_ 6 22 (bm 14 73) HT_.out ?_
refine pu_ 9 25 (bm 14 585) HT_.out ?_
refine take_ (i := 1) (N := some 17) (v := ?_) (a' := ?_) (bm 14 587) rfl rfl (take_ofW HT_.out HW_.out (by kernel_rfl)) (fun _ _ _ h => h) (Or.inl ⟨by rfl, ?_⟩) hHeld ?_ ?_
rotate_left
·(
rintro w' ⟨s0, s1, s2⟩
go_simp
with_reducible rfl
)
rotate_left
·(
simp only [Act.put, List.setIfInBounds_toArray, List.set_cons_zero, List.set_cons_succ, i64_w, i32_w]
rfl
)
refine take_ (i := 4) (N := some 20) (v := ?_) (a' := ?_) (bm 14 603) rfl rfl (take_ofW HT_.out HW_.out (by kernel_rfl)) (fun _ _ _ h => h) (Or.inl ⟨by rfl, ?_⟩) hHeld ?_ ?_
rotate_left
·(
rintro w' ⟨s0, s1, s2⟩
go_simp
with_reducible rfl
)
rotate_left
·(
simp only [Act.put, List.setIfInBounds_toArray, List.set_cons_zero, List.set_cons_succ, i64_w, i32_w]
rfl
)
refine take_ (i := 10) (N := some 26) (v := ?_) (a' := ?_) (bm 14 1627) rfl rfl (take_ofW HT_.out HW_.out (by kernel_rfl)) (fun _ _ _ h => h) (Or.inl ⟨by rfl, ?_⟩) hHeld ?_ ?_
rotate_left
·(
rintro w' ⟨s0, s1, s2⟩
go_simp
with_reducible rfl
)
rotate_left
·(
simp only [Act.put, List.setIfInBounds_toArray, List.set_cons_zero, List.set_cons_succ, i64_w, i32_w]
rfl
)
refine join_ (σ := Value × Value × Value × Value × Nat) 1 (bm 14 8191) (fun s_ => [(18, s_.1), (21, s_.2.1), (23, s_.2.2.1), (24, s_.2.2.2.1), (6, .pointer (some ⟨s_.2.2.2.2, 0, none⟩)), (27, .agg #[.int .i64 a0_0, s_.2.2.2.1, .int .i64 a0_2])]) (fun s_ w' => (w'.cell? ⟨gb107, 0, none⟩ = some (.int .i64 a0_0) ∧ w'.cell? ⟨gb107, 1, none⟩ = some (.slice A0_1 l0_1.length c0_1) ∧ w'.cell? ⟨gb107, 2, none⟩ = some (.int .i64 a0_2)) ∧ (Kd.R Kd.string 9 w' w.heap.size (fun k_ => some k_ ≠ (s_.2.2.2.1 : Value).ownBlock) s_.2.2.1 y116) ∧ (Kd.R Kd.string 9 w' w.heap.size (fun k_ => some k_ ≠ (s_.2.2.1 : Value).ownBlock) s_.2.2.2.1 y119) ∧ (w'.heap[gb107]? = some (.cells #[.int .i64 a0_0, .slice A0_1 l0_1.length c0_1, .int .i64 a0_2] 26 (0, 0))) ∧ (w'.heap[gb108]? = some (.cells #[.int .i64 0, .slice none 0 0, .int .i64 0] 26 (0, 0))) ∧ (w'.heap[s_.2.2.2.2]? = some (.cells #[.int .i64 0, .slice none 0 0, .int .i64 0] 26 (0, 0))) ∧ (w.heap.size ≤ s_.2.2.2.2) ∧ (w.heap.size ≤ s_.2.2.2.2) ∧ (gb107 ≠ s_.2.2.2.2) ∧ (s_.2.2.2.2 ≠ gb107) ∧ (gb108 ≠ s_.2.2.2.2) ∧ (s_.2.2.2.2 ≠ gb108) ∧ (Below w.heap.size w w')) ?_ ?_
rotate_left
·(
intro hJ2_5_7_8_12
refine join_ (σ := Value × Value × Value × Value) 2 (bm 14 4095) (fun s_ => [(18, s_.1), (21, s_.2.1), (23, s_.2.2.1), (24, s_.2.2.2), (27, .agg #[.int .i64 a0_0, s_.2.2.2, .int .i64 a0_2])]) (fun s_ w' => (w'.cell? ⟨gb107, 0, none⟩ = some (.int .i64 a0_0) ∧ w'.cell? ⟨gb107, 1, none⟩ = some (.slice A0_1 l0_1.length c0_1) ∧ w'.cell? ⟨gb107, 2, none⟩ = some (.int .i64 a0_2)) ∧ (Kd.R Kd.string 9 w' w.heap.size (fun k_ => some k_ ≠ (s_.2.2.2 : Value).ownBlock) s_.2.2.1 y116) ∧ (Kd.R Kd.string 9 w' w.heap.size (fun k_ => some k_ ≠ (s_.2.2.1 : Value).ownBlock) s_.2.2.2 y119) ∧ (w'.heap[gb107]? = some (.cells #[.int .i64 a0_0, .slice A0_1 l0_1.length c0_1, .int .i64 a0_2] 26 (0, 0))) ∧ (w'.heap[gb108]? = some (.cells #[.int .i64 0, .slice none 0 0, .int .i64 0] 26 (0, 0))) ∧ (Below w.heap.size w w')) ?_ ?_
rotate_left
·(
intro hJ2_5_7_8
refine join_ (σ := Value × Value × Value × Nat) 3 (bm 14 5887) (fun s_ => [(18, s_.1), (21, s_.2.1), (23, s_.2.2.1), (6, .pointer (some ⟨s_.2.2.2, 0, none⟩))]) (fun s_ w' => (w'.cell? ⟨gb107, 0, none⟩ = some (.int .i64 a0_0) ∧ w'.cell? ⟨gb107, 1, none⟩ = some (.slice A0_1 l0_1.length c0_1) ∧ w'.cell? ⟨gb107, 2, none⟩ = some (.int .i64 a0_2)) ∧ (Kd.R Kd.string 9 w' w.heap.size (fun k_ => some k_ ≠ (s_.2.2.1 : Value).ownBlock) s_.2.1 y113) ∧ (Kd.R Kd.string 9 w' w.heap.size (fun k_ => some k_ ≠ (s_.2.1 : Value).ownBlock) s_.2.2.1 y116) ∧ (w'.heap[gb107]? = some (.cells #[.int .i64 a0_0, .slice A0_1 l0_1.length c0_1, .int .i64 a0_2] 26 (0, 0))) ∧ (w'.heap[gb108]? = some (.cells #[.int .i64 0, .slice none 0 0, .int .i64 0] 26 (0, 0))) ∧ (w'.heap[s_.2.2.2]? = some (.cells #[.int .i64 0, .slice none 0 0, .int .i64 0] 26 (0, 0))) ∧ (w.heap.size ≤ s_.2.2.2) ∧ (w.heap.size ≤ s_.2.2.2) ∧ (gb107 ≠ s_.2.2.2) ∧ (s_.2.2.2 ≠ gb107) ∧ (gb108 ≠ s_.2.2.2) ∧ (s_.2.2.2 ≠ gb108) ∧ (Below w.heap.size w w')) ?_ ?_
rotate_left
·(
intro hJ2_5_7_12
refine join_ (σ := Value × Value × Value) 4 (bm 14 1791) (fun s_ => [(18, s_.1), (21, s_.2.1), (23, s_.2.2)]) (fun s_ w' => (w'.cell? ⟨gb107, 0, none⟩ = some (.int .i64 a0_0) ∧ w'.cell? ⟨gb107, 1, none⟩ = some (.slice A0_1 l0_1.length c0_1) ∧ w'.cell? ⟨gb107, 2, none⟩ = some (.int .i64 a0_2)) ∧ (Kd.R Kd.string 9 w' w.heap.size (fun k_ => some k_ ≠ (s_.2.2 : Value).ownBlock) s_.2.1 y113) ∧ (Kd.R Kd.string 9 w' w.heap.size (fun k_ => some k_ ≠ (s_.2.1 : Value).ownBlock) s_.2.2 y116) ∧ (w'.heap[gb107]? = some (.cells #[.int .i64 a0_0, .slice A0_1 l0_1.length c0_1, .int .i64 a0_2] 26 (0, 0))) ∧ (w'.heap[gb108]? = some (.cells #[.int .i64 0, .slice none 0 0, .int .i64 0] 26 (0, 0))) ∧ (Below w.heap.size w w')) ?_ ?_
rotate_left
·(
intro hJ2_5_7
refine join_ (σ := Value × Value × Nat) 4 (bm 14 5759) (fun s_ => [(18, s_.1), (21, s_.2.1), (6, .pointer (some ⟨s_.2.2, 0, none⟩))]) (fun s_ w' => (w'.cell? ⟨gb107, 0, none⟩ = some (.int .i64 a0_0) ∧ w'.cell? ⟨gb107, 1, none⟩ = some (.slice A0_1 l0_1.length c0_1) ∧ w'.cell? ⟨gb107, 2, none⟩ = some (.int .i64 a0_2)) ∧ (Kd.R Kd.string 9 w' w.heap.size (fun _ => True) s_.2.1 y113) ∧ (w'.heap[gb107]? = some (.cells #[.int .i64 a0_0, .slice A0_1 l0_1.length c0_1, .int .i64 a0_2] 26 (0, 0))) ∧ (w'.heap[gb108]? = some (.cells #[.int .i64 0, .slice none 0 0, .int .i64 0] 26 (0, 0))) ∧ (w'.heap[s_.2.2]? = some (.cells #[.int .i64 0, .slice none 0 0, .int .i64 0] 26 (0, 0))) ∧ (w.heap.size ≤ s_.2.2) ∧ (w.heap.size ≤ s_.2.2) ∧ (gb107 ≠ s_.2.2) ∧ (s_.2.2 ≠ gb107) ∧ (gb108 ≠ s_.2.2) ∧ (s_.2.2 ≠ gb108) ∧ (Below w.heap.size w w')) ?_ ?_
rotate_left
·(
intro hJ2_5_12
refine join_ (σ := Value × Value × Nat) 4 (bm 14 5855) (fun s_ => [(18, s_.1), (23, s_.2.1), (6, .pointer (some ⟨s_.2.2, 0, none⟩))]) (fun s_ w' => (w'.cell? ⟨gb107, 0, none⟩ = some (.int .i64 a0_0) ∧ w'.cell? ⟨gb107, 1, none⟩ = some (.slice A0_1 l0_1.length c0_1) ∧ w'.cell? ⟨gb107, 2, none⟩ = some (.int .i64 a0_2)) ∧ (Kd.R Kd.string 9 w' w.heap.size (fun k_ => some k_ ≠ (s_.2.1 : Value).ownBlock) s_.1 y110) ∧ (Kd.R Kd.string 9 w' w.heap.size (fun k_ => some k_ ≠ (s_.1 : Value).ownBlock) s_.2.1 y116) ∧ (w'.heap[gb107]? = some (.cells #[.int .i64 a0_0, .slice A0_1 l0_1.length c0_1, .int .i64 a0_2] 26 (0, 0))) ∧ (w'.heap[gb108]? = some (.cells #[.int .i64 0, .slice none 0 0, .int .i64 0] 26 (0, 0))) ∧ (w'.heap[s_.2.2]? = some (.cells #[.int .i64 0, .slice none 0 0, .int .i64 0] 26 (0, 0))) ∧ (w.heap.size ≤ s_.2.2) ∧ (w.heap.size ≤ s_.2.2) ∧ (gb107 ≠ s_.2.2) ∧ (s_.2.2 ≠ gb107) ∧ (gb108 ≠ s_.2.2) ∧ (s_.2.2 ≠ gb108) ∧ (Below w.heap.size w w')) ?_ ?_
rotate_left
·(
intro hJ2_7_12
refine join_ (σ := Value × Value) 5 (bm 14 1663) (fun s_ => [(18, s_.1), (21, s_.2)]) (fun s_ w' => (w'.cell? ⟨gb107, 0, none⟩ = some (.int .i64 a0_0) ∧ w'.cell? ⟨gb107, 1, none⟩ = some (.slice A0_1 l0_1.length c0_1) ∧ w'.cell? ⟨gb107, 2, none⟩ = some (.int .i64 a0_2)) ∧ (Kd.R Kd.string 9 w' w.heap.size (fun _ => True) s_.2 y113) ∧ (w'.heap[gb107]? = some (.cells #[.int .i64 a0_0, .slice A0_1 l0_1.length c0_1, .int .i64 a0_2] 26 (0, 0))) ∧ (w'.heap[gb108]? = some (.cells #[.int .i64 0, .slice none 0 0, .int .i64 0] 26 (0, 0))) ∧ (Below w.heap.size w w')) ?_ ?_
rotate_left
·(
intro hJ2_5
refine join_ (σ := Value × Value) 5 (bm 14 1759) (fun s_ => [(18, s_.1), (23, s_.2)]) (fun s_ w' => (w'.cell? ⟨gb107, 0, none⟩ = some (.int .i64 a0_0) ∧ w'.cell? ⟨gb107, 1, none⟩ = some (.slice A0_1 l0_1.length c0_1) ∧ w'.cell? ⟨gb107, 2, none⟩ = some (.int .i64 a0_2)) ∧ (Kd.R Kd.string 9 w' w.heap.size (fun k_ => some k_ ≠ (s_.2 : Value).ownBlock) s_.1 y110) ∧ (Kd.R Kd.string 9 w' w.heap.size (fun k_ => some k_ ≠ (s_.1 : Value).ownBlock) s_.2 y116) ∧ (w'.heap[gb107]? = some (.cells #[.int .i64 a0_0, .slice A0_1 l0_1.length c0_1, .int .i64 a0_2] 26 (0, 0))) ∧ (w'.heap[gb108]? = some (.cells #[.int .i64 0, .slice none 0 0, .int .i64 0] 26 (0, 0))) ∧ (Below w.heap.size w w')) ?_ ?_
rotate_left
·(
intro hJ2_7
refine join_ (σ := Value × Nat) 5 (bm 14 5727) (fun s_ => [(18, s_.1), (6, .pointer (some ⟨s_.2, 0, none⟩))]) (fun s_ w' => (w'.cell? ⟨gb107, 0, none⟩ = some (.int .i64 a0_0) ∧ w'.cell? ⟨gb107, 1, none⟩ = some (.slice A0_1 l0_1.length c0_1) ∧ w'.cell? ⟨gb107, 2, none⟩ = some (.int .i64 a0_2)) ∧ (Kd.R Kd.string 9 w' w.heap.size (fun _ => True) s_.1 y110) ∧ (w'.heap[gb107]? = some (.cells #[.int .i64 a0_0, .slice A0_1 l0_1.length c0_1, .int .i64 a0_2] 26 (0, 0))) ∧ (w'.heap[gb108]? = some (.cells #[.int .i64 0, .slice none 0 0, .int .i64 0] 26 (0, 0))) ∧ (w'.heap[s_.2]? = some (.cells #[.int .i64 0, .slice none 0 0, .int .i64 0] 26 (0, 0))) ∧ (w.heap.size ≤ s_.2) ∧ (w.heap.size ≤ s_.2) ∧ (gb107 ≠ s_.2) ∧ (s_.2 ≠ gb107) ∧ (gb108 ≠ s_.2) ∧ (s_.2 ≠ gb108) ∧ (Below w.heap.size w w')) ?_ ?_
rotate_left
·(
intro hJ2_12
refine join_ (σ := Value × Nat) 5 (bm 14 5851) (fun s_ => [(23, s_.1), (6, .pointer (some ⟨s_.2, 0, none⟩))]) (fun s_ w' => (w'.cell? ⟨gb107, 0, none⟩ = some (.int .i64 a0_0) ∧ w'.cell? ⟨gb107, 1, none⟩ = some (.slice A0_1 l0_1.length c0_1) ∧ w'.cell? ⟨gb107, 2, none⟩ = some (.int .i64 a0_2)) ∧ (Kd.R Kd.string 9 w' w.heap.size (fun _ => True) s_.1 y116) ∧ (w'.heap[gb107]? = some (.cells #[.int .i64 a0_0, .slice A0_1 l0_1.length c0_1, .int .i64 a0_2] 26 (0, 0))) ∧ (w'.heap[gb108]? = some (.cells #[.int .i64 0, .slice none 0 0, .int .i64 0] 26 (0, 0))) ∧ (w'.heap[s_.2]? = some (.cells #[.int .i64 0, .slice none 0 0, .int .i64 0] 26 (0, 0))) ∧ (w.heap.size ≤ s_.2) ∧ (w.heap.size ≤ s_.2) ∧ (gb107 ≠ s_.2) ∧ (s_.2 ≠ gb107) ∧ (gb108 ≠ s_.2) ∧ (s_.2 ≠ gb108) ∧ (Below w.heap.size w w')) ?_ ?_
rotate_left
·(
intro hJ7_12
refine join_ (σ := Value) 6 (bm 14 1631) (fun s_ => [(18, s_)]) (fun s_ w' => (w'.cell? ⟨gb107, 0, none⟩ = some (.int .i64 a0_0) ∧ w'.cell? ⟨gb107, 1, none⟩ = some (.slice A0_1 l0_1.length c0_1) ∧ w'.cell? ⟨gb107, 2, none⟩ = some (.int .i64 a0_2)) ∧ (Kd.R Kd.string 9 w' w.heap.size (fun _ => True) s_ y110) ∧ (w'.heap[gb107]? = some (.cells #[.int .i64 a0_0, .slice A0_1 l0_1.length c0_1, .int .i64 a0_2] 26 (0, 0))) ∧ (w'.heap[gb108]? = some (.cells #[.int .i64 0, .slice none 0 0, .int .i64 0] 26 (0, 0))) ∧ (Below w.heap.size w w')) ?_ ?_
rotate_left
·(
intro hJ2
refine join_ (σ := Value) 6 (bm 14 1755) (fun s_ => [(23, s_)]) (fun s_ w' => (w'.cell? ⟨gb107, 0, none⟩ = some (.int .i64 a0_0) ∧ w'.cell? ⟨gb107, 1, none⟩ = some (.slice A0_1 l0_1.length c0_1) ∧ w'.cell? ⟨gb107, 2, none⟩ = some (.int .i64 a0_2)) ∧ (Kd.R Kd.string 9 w' w.heap.size (fun _ => True) s_ y116) ∧ (w'.heap[gb107]? = some (.cells #[.int .i64 a0_0, .slice A0_1 l0_1.length c0_1, .int .i64 a0_2] 26 (0, 0))) ∧ (w'.heap[gb108]? = some (.cells #[.int .i64 0, .slice none 0 0, .int .i64 0] 26 (0, 0))) ∧ (Below w.heap.size w w')) ?_ ?_
rotate_left
·(
intro hJ7
refine join_ (σ := Nat) 6 (bm 14 5723) (fun s_ => [(6, .pointer (some ⟨s_, 0, none⟩))]) (fun s_ w' => (w'.cell? ⟨gb107, 0, none⟩ = some (.int .i64 a0_0) ∧ w'.cell? ⟨gb107, 1, none⟩ = some (.slice A0_1 l0_1.length c0_1) ∧ w'.cell? ⟨gb107, 2, none⟩ = some (.int .i64 a0_2)) ∧ (w'.heap[gb107]? = some (.cells #[.int .i64 a0_0, .slice A0_1 l0_1.length c0_1, .int .i64 a0_2] 26 (0, 0))) ∧ (w'.heap[gb108]? = some (.cells #[.int .i64 0, .slice none 0 0, .int .i64 0] 26 (0, 0))) ∧ (w'.heap[s_]? = some (.cells #[.int .i64 0, .slice none 0 0, .int .i64 0] 26 (0, 0))) ∧ (w.heap.size ≤ s_) ∧ (w.heap.size ≤ s_) ∧ (gb107 ≠ s_) ∧ (s_ ≠ gb107) ∧ (gb108 ≠ s_) ∧ (s_ ≠ gb108) ∧ (Below w.heap.size w w')) ?_ ?_
rotate_left
·(
intro hJ12
refine three_ (i := 2) (j := 7) (k := 12) (Ni := some 18) (Nj := some 23) (Nk := some 6) (bm 14 1631) (bm 14 1755) (bm 14 5723) rfl rfl rfl rfl rfl rfl (three_of HT_.out (by kernel_rfl)) (by decide) (by decide) (by decide) (fun K hK => ?_) (fun K hK => ?_) (fun K hK => ?_)
·(
skip
refine Kd.R_lit_step Kd.string _ 9 ?hg (N := 18) ?hd (xs := ([] : List ByteArray)) (inner := []) (ok := fun _ => True) (okp := fun _ => True) ?hr ?hp (fun _ hk => hk) trivial (Below.refl _ _) (Nat.le_refl _) (by simp) ?_; (case hd => rfl); (case hg => rfl); (case hr => first | (go_simp; done) | (go_simp; rfl)); (case hp => exact (Reps.none _ _))
intro v111 w91 ho92 hb hg_ hnew_
clear hg_ hnew_
(first | rw [← Ny110.out] at ho92 | (simp only [Int.reduceToNat] at ho92; rw [← Ny110.out] at ho92))
have HO112 := am (Kd.R_lower ho92 (below_size (rb2 HB GE107 GE108)))
replace BK107 := am (blk_below (rk BK107) hb)
replace BK108 := am (blk_below (rk BK108) hb)
replace HB := am (below_step (rb2 HB GE107 GE108) hb)
clear hb ho92
refine hK.out _ _ (bc3 BK107) (fun hHeld => ?_)
clear hK K
refine norm_ (a' := _) (show Act.put _ (some 18) _ = _ from na) ?_
exact norm_ nz (hJ2 (v111) _ ⟨hHeld, (rr HO112), (rk BK107), (rk BK108), (rb2 HB GE107 GE108)⟩)
)
·(
skip
refine Kd.R_lit_step Kd.string _ 9 ?hg (N := 23) ?hd (xs := ([a1] : List ByteArray)) (inner := [.string a1]) (ok := fun _ => True) (okp := fun _ => True) ?hr ?hp (fun _ hk => hk) trivial (Below.refl _ _) (Nat.le_refl _) (by simp) ?_; (case hd => rfl); (case hg => rfl); (case hr => first | (go_simp; done) | (go_simp; rfl)); (case hp => exact (Reps.one (show Kd.M Kd.string _ _ _ a1 [.string a1] from rfl) (Reps.none _ _)))
intro v117 w91 ho92 hb hg_ hnew_
clear hg_ hnew_
(first | rw [← Ny116.out] at ho92 | (simp only [Int.reduceToNat] at ho92; rw [← Ny116.out] at ho92))
have HO118 := am (Kd.R_lower ho92 (below_size (rb2 HB GE107 GE108)))
replace BK107 := am (blk_below (rk BK107) hb)
replace BK108 := am (blk_below (rk BK108) hb)
replace HB := am (below_step (rb2 HB GE107 GE108) hb)
clear hb ho92
refine hK.out _ _ (bc3 BK107) (fun hHeld => ?_)
clear hK K
refine norm_ (a' := _) (show Act.put _ (some 23) _ = _ from na) ?_
exact norm_ nz (hJ7 (v117) _ ⟨hHeld, (rr HO118), (rk BK107), (rk BK108), (rb2 HB GE107 GE108)⟩)
)
·(
skip
refine box_step ?hg (N := 6) ?hd (cs := #[.int .i64 0, .slice none 0 0, .int .i64 0]) (t := 26) ?hr ?_; (case hd => rfl); (case hg => rfl); (case hr => first | (go_simp; done) | (go_simp; rfl))
intro gb122 hg w91 hbox hb
have BK122 := am (hbox)
have GW122 := am (gw hg (rb2 HB GE107 GE108))
have GE122 := GW122
replace HB := am (below_step (rb2 HB GE107 GE108) hb)
have NB107_122 := am (nl hg (rk BK107))
have NB122_107 := am (ng hg (rk BK107))
replace BK107 := am (blk_below (rk BK107) hb)
have NB108_122 := am (nl hg (rk BK108))
have NB122_108 := am (ng hg (rk BK108))
replace BK108 := am (blk_below (rk BK108) hb)
clear hb hbox hg
refine hK.out _ _ (bc3 BK107) (fun hHeld => ?_)
clear hK K
refine norm_ (a' := _) (show Act.put _ (some 6) _ = _ from na) ?_
exact norm_ nz (hJ12 (gb122) _ ⟨hHeld, (rk BK107), (rk BK108), (rk BK122), GW122.out, GE122.out, NB107_122.out, NB122_107.out, NB108_122.out, NB122_108.out, (rb3 HB GE107 GE108 GE122)⟩)
)
)
·(
skip
rintro gb122 w92 ⟨hHeld, h0_, h1_, h2_, h3_, h4_, h5_, h6_, h7_, h8_, h9_⟩
(try dsimp only at hHeld h0_ h1_ h2_ h3_ h4_ h5_ h6_ h7_ h8_ h9_)
replace BK107 := am h0_; replace BK108 := am h1_; have BK122 := am h2_; have GW122 := am h3_; have GE122 := am h4_; have NB107_122 := am h5_; have NB122_107 := am h6_; have NB108_122 := am h7_; have NB122_108 := am h8_; replace HB := am h9_
clear h0_ h1_ h2_ h3_ h4_ h5_ h6_ h7_ h8_ h9_
refine norm_ (a' := _) nr ?_
refine two_ (i := 2) (j := 7) (Ni := some 18) (Nj := some 23) (bm 14 5727) (bm 14 5851) rfl rfl rfl rfl (two_of HT_.out (by kernel_rfl)) (by decide) (by decide) (fun K hK => ?_) (fun K hK => ?_)
·(
skip
refine Kd.R_lit_step Kd.string _ 9 ?hg (N := 18) ?hd (xs := ([] : List ByteArray)) (inner := []) (ok := fun _ => True) (okp := fun _ => True) ?hr ?hp (fun _ hk => hk) trivial (Below.refl _ _) (Nat.le_refl _) (by simp) ?_; (case hd => rfl); (case hg => rfl); (case hr => first | (go_simp; done) | (go_simp; rfl)); (case hp => exact (Reps.none _ _))
intro v111 w93 ho94 hb hg_ hnew_
clear hg_ hnew_
(first | rw [← Ny110.out] at ho94 | (simp only [Int.reduceToNat] at ho94; rw [← Ny110.out] at ho94))
have HO112 := am (Kd.R_lower ho94 (below_size (rb3 HB GE107 GE108 GE122)))
replace BK107 := am (blk_below (rk BK107) hb)
replace BK108 := am (blk_below (rk BK108) hb)
replace BK122 := am (blk_below (rk BK122) hb)
replace HB := am (below_step (rb3 HB GE107 GE108 GE122) hb)
clear hb ho94
refine hK.out _ _ (bc3 BK107) (fun hHeld => ?_)
clear hK K
refine norm_ (a' := _) (show Act.put _ (some 18) _ = _ from na) ?_
exact norm_ nz (hJ2_12 (v111, gb122) _ ⟨hHeld, (rr HO112), (rk BK107), (rk BK108), (rk BK122), GW122.out, GE122.out, NB107_122.out, NB122_107.out, NB108_122.out, NB122_108.out, (rb3 HB GE107 GE108 GE122)⟩)
)
·(
skip
refine Kd.R_lit_step Kd.string _ 9 ?hg (N := 23) ?hd (xs := ([a1] : List ByteArray)) (inner := [.string a1]) (ok := fun _ => True) (okp := fun _ => True) ?hr ?hp (fun _ hk => hk) trivial (Below.refl _ _) (Nat.le_refl _) (by simp) ?_; (case hd => rfl); (case hg => rfl); (case hr => first | (go_simp; done) | (go_simp; rfl)); (case hp => exact (Reps.one (show Kd.M Kd.string _ _ _ a1 [.string a1] from rfl) (Reps.none _ _)))
intro v117 w93 ho94 hb hg_ hnew_
clear hg_ hnew_
(first | rw [← Ny116.out] at ho94 | (simp only [Int.reduceToNat] at ho94; rw [← Ny116.out] at ho94))
have HO118 := am (Kd.R_lower ho94 (below_size (rb3 HB GE107 GE108 GE122)))
replace BK107 := am (blk_below (rk BK107) hb)
replace BK108 := am (blk_below (rk BK108) hb)
replace BK122 := am (blk_below (rk BK122) hb)
replace HB := am (below_step (rb3 HB GE107 GE108 GE122) hb)
clear hb ho94
refine hK.out _ _ (bc3 BK107) (fun hHeld => ?_)
clear hK K
refine norm_ (a' := _) (show Act.put _ (some 23) _ = _ from na) ?_
exact norm_ nz (hJ7_12 (v117, gb122) _ ⟨hHeld, (rr HO118), (rk BK107), (rk BK108), (rk BK122), GW122.out, GE122.out, NB107_122.out, NB122_107.out, NB108_122.out, NB122_108.out, (rb3 HB GE107 GE108 GE122)⟩)
)
)
)
·(
skip
rintro v117 w93 ⟨hHeld, h0_, h1_, h2_, h3_⟩
(try dsimp only at hHeld h0_ h1_ h2_ h3_)
have HO118 := am h0_; replace BK107 := am h1_; replace BK108 := am h2_; replace HB := am h3_
clear h0_ h1_ h2_ h3_
refine norm_ (a' := _) nr ?_
refine two_ (i := 2) (j := 12) (Ni := some 18) (Nj := some 6) (bm 14 1759) (bm 14 5851) rfl rfl rfl rfl (two_of HT_.out (by kernel_rfl)) (by decide) (by decide) (fun K hK => ?_) (fun K hK => ?_)
·(
skip
refine Kd.R_lit_step Kd.string _ 9 ?hg (N := 18) ?hd (xs := ([] : List ByteArray)) (inner := []) (ok := fun _ => True) (okp := fun _ => True) ?hr ?hp (fun _ hk => hk) trivial (Below.refl _ _) (Nat.le_refl _) (by simp) ?_; (case hd => rfl); (case hg => rfl); (case hr => first | (go_simp; done) | (go_simp; rfl)); (case hp => exact (Reps.none _ _))
intro v111 w94 ho95 hb hg_ hnew_
clear hg_ hnew_
(first | rw [← Ny110.out] at ho95 | (simp only [Int.reduceToNat] at ho95; rw [← Ny110.out] at ho95))
have HO112 := am (Kd.R_lower (Kd.R_new' ho95 (Kd.R_lt (rr HO118))) (below_size (rb2 HB GE107 GE108)))
replace HO118 := am (Kd.R_elder' (rr HO118) (Kd.R_base ho95) hb)
replace BK107 := am (blk_below (rk BK107) hb)
replace BK108 := am (blk_below (rk BK108) hb)
replace HB := am (below_step (rb2 HB GE107 GE108) hb)
clear hb ho95
refine hK.out _ _ (bc3 BK107) (fun hHeld => ?_)
clear hK K
refine norm_ (a' := _) (show Act.put _ (some 18) _ = _ from na) ?_
exact norm_ nz (hJ2_7 (v111, v117) _ ⟨hHeld, (rrm HO112), (rrm HO118), (rk BK107), (rk BK108), (rb2 HB GE107 GE108)⟩)
)
·(
skip
refine box_step ?hg (N := 6) ?hd (cs := #[.int .i64 0, .slice none 0 0, .int .i64 0]) (t := 26) ?hr ?_; (case hd => rfl); (case hg => rfl); (case hr => first | (go_simp; done) | (go_simp; rfl))
intro gb122 hg w94 hbox hb
replace HO118 := am (Kd.R_below (rr HO118) hb)
have BK122 := am (hbox)
have GW122 := am (gw hg (rb2 HB GE107 GE108))
have GE122 := GW122
replace HB := am (below_step (rb2 HB GE107 GE108) hb)
have NB107_122 := am (nl hg (rk BK107))
have NB122_107 := am (ng hg (rk BK107))
replace BK107 := am (blk_below (rk BK107) hb)
have NB108_122 := am (nl hg (rk BK108))
have NB122_108 := am (ng hg (rk BK108))
replace BK108 := am (blk_below (rk BK108) hb)
clear hb hbox hg
refine hK.out _ _ (bc3 BK107) (fun hHeld => ?_)
clear hK K
refine norm_ (a' := _) (show Act.put _ (some 6) _ = _ from na) ?_
exact norm_ nz (hJ7_12 (v117, gb122) _ ⟨hHeld, (rr HO118), (rk BK107), (rk BK108), (rk BK122), GW122.out, GE122.out, NB107_122.out, NB122_107.out, NB108_122.out, NB122_108.out, (rb3 HB GE107 GE108 GE122)⟩)
)
)
)
·(
skip
rintro v111 w93 ⟨hHeld, h0_, h1_, h2_, h3_⟩
(try dsimp only at hHeld h0_ h1_ h2_ h3_)
have HO112 := am h0_; replace BK107 := am h1_; replace BK108 := am h2_; replace HB := am h3_
clear h0_ h1_ h2_ h3_
refine norm_ (a' := _) nr ?_
refine three_ (i := 5) (j := 7) (k := 12) (Ni := some 21) (Nj := some 23) (Nk := some 6) (bm 14 1663) (bm 14 1759) (bm 14 5727) rfl rfl rfl rfl rfl rfl (three_of HT_.out (by kernel_rfl)) (by decide) (by decide) (by decide) (fun K hK => ?_) (fun K hK => ?_) (fun K hK => ?_)
·(
skip
refine Kd.R_append_rows_step Kd.string (w0 := w) w.heap.size (by rfl) (.tmp 18) (.tmp 20) 24 9 (.string ⟨#[]⟩) 16 rfl Try.underlying24 info9 rfl (by decide) (by omega) v111 y110 l0_1 _ _ _ (fun _ => True) (fun _ => False) rfl rfl ?aO ?aR (fun _ _ h => h) (fun _ h => h.elim) ?aF ?aB ?aS ?aL ?_
(case aR => repeat (first | exact (Kd.C_below HR0_1.out HB.out) | (with_reducible refine Kd.C_alloc ?_ _) | (with_reducible refine Kd.C_drewN ?_ _) | (with_reducible refine Kd.C_drew ?_)))
(case aB => exact (rb2 HB GE107 GE108))
(case aF => exact (fun _ _ => trivial))
(case aO => exact (rr HO112))
(case aS => exact (below_size (rb2 HB GE107 GE108)))
(case aL => have := LMc17.out; omega)
intro v114 w94 ho hb hg hat
rw [← Ny113.out] at ho
replace BK107 := am (blk_grown (rk BK107) hg (Kd.R_ne HO112.out BK107.out (by decide)))
replace BK108 := am (blk_grown (rk BK108) hg (Kd.R_ne HO112.out BK108.out (by decide)))
replace HB := am (hb)
have HO115 := am (ho)
clear HO112
clear ho hb hg hat
refine hK.out _ _ (bc3 BK107) (fun hHeld => ?_)
clear hK K
refine norm_ (a' := _) (show Act.put _ (some 21) _ = _ from na) ?_
exact norm_ nz (hJ2_5 (v111, v114) _ ⟨hHeld, (rr HO115), (rk BK107), (rk BK108), (rb2 HB GE107 GE108)⟩)
)
·(
skip
refine Kd.R_lit_step Kd.string _ 9 ?hg (N := 23) ?hd (xs := ([a1] : List ByteArray)) (inner := [.string a1]) (ok := fun _ => True) (okp := fun _ => True) ?hr ?hp (fun _ hk => hk) trivial (Below.refl _ _) (Nat.le_refl _) (by simp) ?_; (case hd => rfl); (case hg => rfl); (case hr => first | (go_simp; done) | (go_simp; rfl)); (case hp => exact (Reps.one (show Kd.M Kd.string _ _ _ a1 [.string a1] from rfl) (Reps.none _ _)))
intro v117 w94 ho95 hb hg_ hnew_
clear hg_ hnew_
(first | rw [← Ny116.out] at ho95 | (simp only [Int.reduceToNat] at ho95; rw [← Ny116.out] at ho95))
have HO118 := am (Kd.R_lower (Kd.R_new' ho95 (Kd.R_lt (rr HO112))) (below_size (rb2 HB GE107 GE108)))
replace HO112 := am (Kd.R_elder' (rr HO112) (Kd.R_base ho95) hb)
replace BK107 := am (blk_below (rk BK107) hb)
replace BK108 := am (blk_below (rk BK108) hb)
replace HB := am (below_step (rb2 HB GE107 GE108) hb)
clear hb ho95
refine hK.out _ _ (bc3 BK107) (fun hHeld => ?_)
clear hK K
refine norm_ (a' := _) (show Act.put _ (some 23) _ = _ from na) ?_
exact norm_ nz (hJ2_7 (v111, v117) _ ⟨hHeld, (rrm HO112), (rrm HO118), (rk BK107), (rk BK108), (rb2 HB GE107 GE108)⟩)
)
·(
skip
refine box_step ?hg (N := 6) ?hd (cs := #[.int .i64 0, .slice none 0 0, .int .i64 0]) (t := 26) ?hr ?_; (case hd => rfl); (case hg => rfl); (case hr => first | (go_simp; done) | (go_simp; rfl))
intro gb122 hg w94 hbox hb
replace HO112 := am (Kd.R_below (rr HO112) hb)
have BK122 := am (hbox)
have GW122 := am (gw hg (rb2 HB GE107 GE108))
have GE122 := GW122
replace HB := am (below_step (rb2 HB GE107 GE108) hb)
have NB107_122 := am (nl hg (rk BK107))
have NB122_107 := am (ng hg (rk BK107))
replace BK107 := am (blk_below (rk BK107) hb)
have NB108_122 := am (nl hg (rk BK108))
have NB122_108 := am (ng hg (rk BK108))
replace BK108 := am (blk_below (rk BK108) hb)
clear hb hbox hg
refine hK.out _ _ (bc3 BK107) (fun hHeld => ?_)
clear hK K
refine norm_ (a' := _) (show Act.put _ (some 6) _ = _ from na) ?_
exact norm_ nz (hJ2_12 (v111, gb122) _ ⟨hHeld, (rr HO112), (rk BK107), (rk BK108), (rk BK122), GW122.out, GE122.out, NB107_122.out, NB122_107.out, NB108_122.out, NB122_108.out, (rb3 HB GE107 GE108 GE122)⟩)
)
)
)
·(
skip
rintro ⟨v117, gb122⟩ w94 ⟨hHeld, h0_, h1_, h2_, h3_, h4_, h5_, h6_, h7_, h8_, h9_, h10_⟩
(try dsimp only at hHeld h0_ h1_ h2_ h3_ h4_ h5_ h6_ h7_ h8_ h9_ h10_)
have HO118 := am h0_; replace BK107 := am h1_; replace BK108 := am h2_; have BK122 := am h3_; have GW122 := am h4_; have GE122 := am h5_; have NB107_122 := am h6_; have NB122_107 := am h7_; have NB108_122 := am h8_; have NB122_108 := am h9_; replace HB := am h10_
clear h0_ h1_ h2_ h3_ h4_ h5_ h6_ h7_ h8_ h9_ h10_
refine norm_ (a' := _) nr ?_
refine one_ (i := 2) (N := some 18) (bm 14 5855) rfl rfl (one_of HT_.out (by kernel_rfl)) (by decide) (fun K hK => ?_)
refine Kd.R_lit_step Kd.string _ 9 ?hg (N := 18) ?hd (xs := ([] : List ByteArray)) (inner := []) (ok := fun _ => True) (okp := fun _ => True) ?hr ?hp (fun _ hk => hk) trivial (Below.refl _ _) (Nat.le_refl _) (by simp) ?_; (case hd => rfl); (case hg => rfl); (case hr => first | (go_simp; done) | (go_simp; rfl)); (case hp => exact (Reps.none _ _))
intro v111 w95 ho96 hb hg_ hnew_
clear hg_ hnew_
(first | rw [← Ny110.out] at ho96 | (simp only [Int.reduceToNat] at ho96; rw [← Ny110.out] at ho96))
have HO112 := am (Kd.R_lower (Kd.R_new' ho96 (Kd.R_lt (rr HO118))) (below_size (rb3 HB GE107 GE108 GE122)))
replace HO118 := am (Kd.R_elder' (rr HO118) (Kd.R_base ho96) hb)
replace BK107 := am (blk_below (rk BK107) hb)
replace BK108 := am (blk_below (rk BK108) hb)
replace BK122 := am (blk_below (rk BK122) hb)
replace HB := am (below_step (rb3 HB GE107 GE108 GE122) hb)
clear hb ho96
refine hK.out _ _ (bc3 BK107) (fun hHeld => ?_)
clear hK K
refine norm_ (a' := _) (show Act.put _ (some 18) _ = _ from na) ?_
exact norm_ nz (hJ2_7_12 (v111, v117, gb122) _ ⟨hHeld, (rrm HO112), (rrm HO118), (rk BK107), (rk BK108), (rk BK122), GW122.out, GE122.out, NB107_122.out, NB122_107.out, NB108_122.out, NB122_108.out, (rb3 HB GE107 GE108 GE122)⟩)
)
)
·(
skip
rintro ⟨v111, gb122⟩ w94 ⟨hHeld, h0_, h1_, h2_, h3_, h4_, h5_, h6_, h7_, h8_, h9_, h10_⟩
(try dsimp only at hHeld h0_ h1_ h2_ h3_ h4_ h5_ h6_ h7_ h8_ h9_ h10_)
have HO112 := am h0_; replace BK107 := am h1_; replace BK108 := am h2_; have BK122 := am h3_; have GW122 := am h4_; have GE122 := am h5_; have NB107_122 := am h6_; have NB122_107 := am h7_; have NB108_122 := am h8_; have NB122_108 := am h9_; replace HB := am h10_
clear h0_ h1_ h2_ h3_ h4_ h5_ h6_ h7_ h8_ h9_ h10_
refine norm_ (a' := _) nr ?_
refine two_ (i := 5) (j := 7) (Ni := some 21) (Nj := some 23) (bm 14 5759) (bm 14 5855) rfl rfl rfl rfl (two_of HT_.out (by kernel_rfl)) (by decide) (by decide) (fun K hK => ?_) (fun K hK => ?_)
·(
skip
refine Kd.R_append_rows_step Kd.string (w0 := w) w.heap.size (by rfl) (.tmp 18) (.tmp 20) 24 9 (.string ⟨#[]⟩) 16 rfl Try.underlying24 info9 rfl (by decide) (by omega) v111 y110 l0_1 _ _ _ (fun _ => True) (fun _ => False) rfl rfl ?aO ?aR (fun _ _ h => h) (fun _ h => h.elim) ?aF ?aB ?aS ?aL ?_
(case aR => repeat (first | exact (Kd.C_below HR0_1.out HB.out) | (with_reducible refine Kd.C_alloc ?_ _) | (with_reducible refine Kd.C_drewN ?_ _) | (with_reducible refine Kd.C_drew ?_)))
(case aB => exact (rb3 HB GE107 GE108 GE122))
(case aF => exact (fun _ _ => trivial))
(case aO => exact (rr HO112))
(case aS => exact (below_size (rb3 HB GE107 GE108 GE122)))
(case aL => have := LMc17.out; omega)
intro v114 w95 ho hb hg hat
rw [← Ny113.out] at ho
replace BK107 := am (blk_grown (rk BK107) hg (Kd.R_ne HO112.out BK107.out (by decide)))
replace BK108 := am (blk_grown (rk BK108) hg (Kd.R_ne HO112.out BK108.out (by decide)))
replace BK122 := am (blk_grown (rk BK122) hg (Kd.R_ne HO112.out BK122.out (by decide)))
replace HB := am (hb)
have HO115 := am (ho)
clear HO112
clear ho hb hg hat
refine hK.out _ _ (bc3 BK107) (fun hHeld => ?_)
clear hK K
refine norm_ (a' := _) (show Act.put _ (some 21) _ = _ from na) ?_
exact norm_ nz (hJ2_5_12 (v111, v114, gb122) _ ⟨hHeld, (rr HO115), (rk BK107), (rk BK108), (rk BK122), GW122.out, GE122.out, NB107_122.out, NB122_107.out, NB108_122.out, NB122_108.out, (rb3 HB GE107 GE108 GE122)⟩)
)
·(
skip
refine Kd.R_lit_step Kd.string _ 9 ?hg (N := 23) ?hd (xs := ([a1] : List ByteArray)) (inner := [.string a1]) (ok := fun _ => True) (okp := fun _ => True) ?hr ?hp (fun _ hk => hk) trivial (Below.refl _ _) (Nat.le_refl _) (by simp) ?_; (case hd => rfl); (case hg => rfl); (case hr => first | (go_simp; done) | (go_simp; rfl)); (case hp => exact (Reps.one (show Kd.M Kd.string _ _ _ a1 [.string a1] from rfl) (Reps.none _ _)))
intro v117 w95 ho96 hb hg_ hnew_
clear hg_ hnew_
(first | rw [← Ny116.out] at ho96 | (simp only [Int.reduceToNat] at ho96; rw [← Ny116.out] at ho96))
have HO118 := am (Kd.R_lower (Kd.R_new' ho96 (Kd.R_lt (rr HO112))) (below_size (rb3 HB GE107 GE108 GE122)))
replace HO112 := am (Kd.R_elder' (rr HO112) (Kd.R_base ho96) hb)
replace BK107 := am (blk_below (rk BK107) hb)
replace BK108 := am (blk_below (rk BK108) hb)
replace BK122 := am (blk_below (rk BK122) hb)
replace HB := am (below_step (rb3 HB GE107 GE108 GE122) hb)
clear hb ho96
refine hK.out _ _ (bc3 BK107) (fun hHeld => ?_)
clear hK K
refine norm_ (a' := _) (show Act.put _ (some 23) _ = _ from na) ?_
exact norm_ nz (hJ2_7_12 (v111, v117, gb122) _ ⟨hHeld, (rrm HO112), (rrm HO118), (rk BK107), (rk BK108), (rk BK122), GW122.out, GE122.out, NB107_122.out, NB122_107.out, NB108_122.out, NB122_108.out, (rb3 HB GE107 GE108 GE122)⟩)
)
)
)
·(
skip
rintro ⟨v111, v117⟩ w95 ⟨hHeld, h0_, h1_, h2_, h3_, h4_⟩
(try dsimp only at hHeld h0_ h1_ h2_ h3_ h4_)
have HO112 := am h0_; have HO118 := am h1_; replace BK107 := am h2_; replace BK108 := am h3_; replace HB := am h4_
clear h0_ h1_ h2_ h3_ h4_
refine norm_ (a' := _) nr ?_
refine two_ (i := 5) (j := 12) (Ni := some 21) (Nj := some 6) (bm 14 1791) (bm 14 5855) rfl rfl rfl rfl (two_of HT_.out (by kernel_rfl)) (by decide) (by decide) (fun K hK => ?_) (fun K hK => ?_)
·(
skip
refine Kd.R_append_rows_step Kd.string (w0 := w) w.heap.size (by rfl) (.tmp 18) (.tmp 20) 24 9 (.string ⟨#[]⟩) 16 rfl Try.underlying24 info9 rfl (by decide) (by omega) v111 y110 l0_1 _ _ _ (fun k_ => some k_ ≠ (v117 : Value).ownBlock) (fun _ => False) rfl rfl ?aO ?aR (fun _ _ h => h) (fun _ h => h.elim) ?aF ?aB ?aS ?aL ?_
(case aR => repeat (first | exact (Kd.C_below HR0_1.out HB.out) | (with_reducible refine Kd.C_alloc ?_ _) | (with_reducible refine Kd.C_drewN ?_ _) | (with_reducible refine Kd.C_drew ?_)))
(case aB => exact (rb2 HB GE107 GE108))
(case aF => exact (fun k_ hk => Kd.fresh' (Kd.R_lt (rr HO118)) k_ hk))
(case aO => exact (rr HO112))
(case aS => exact (below_size (rb2 HB GE107 GE108)))
(case aL => have := LMc17.out; omega)
intro v114 w96 ho hb hg hat
rw [← Ny113.out] at ho
replace BK107 := am (blk_grown (rk BK107) hg (Kd.R_ne HO112.out BK107.out (by decide)))
replace BK108 := am (blk_grown (rk BK108) hg (Kd.R_ne HO112.out BK108.out (by decide)))
replace HO118 := am (Kd.R_after (ok := (fun _ => True)) (by (with_reducible repeat (first | apply r1 | apply r2 | apply r3)); exact Kd.R_mono HO118.out (fun _ hk => ⟨trivial, hk⟩)) hg hat)
replace HB := am (hb)
have HO115 := am (ho)
clear HO112
clear ho hb hg hat
refine hK.out _ _ (bc3 BK107) (fun hHeld => ?_)
clear hK K
refine norm_ (a' := _) (show Act.put _ (some 21) _ = _ from na) ?_
exact norm_ nz (hJ2_5_7 (v111, v114, v117) _ ⟨hHeld, (rr HO115), (rrm HO118), (rk BK107), (rk BK108), (rb2 HB GE107 GE108)⟩)
)
·(
skip
refine box_step ?hg (N := 6) ?hd (cs := #[.int .i64 0, .slice none 0 0, .int .i64 0]) (t := 26) ?hr ?_; (case hd => rfl); (case hg => rfl); (case hr => first | (go_simp; done) | (go_simp; rfl))
intro gb122 hg w96 hbox hb
replace HO112 := am (Kd.R_below (rr HO112) hb)
replace HO118 := am (Kd.R_below (rr HO118) hb)
have BK122 := am (hbox)
have GW122 := am (gw hg (rb2 HB GE107 GE108))
have GE122 := GW122
replace HB := am (below_step (rb2 HB GE107 GE108) hb)
have NB107_122 := am (nl hg (rk BK107))
have NB122_107 := am (ng hg (rk BK107))
replace BK107 := am (blk_below (rk BK107) hb)
have NB108_122 := am (nl hg (rk BK108))
have NB122_108 := am (ng hg (rk BK108))
replace BK108 := am (blk_below (rk BK108) hb)
clear hb hbox hg
refine hK.out _ _ (bc3 BK107) (fun hHeld => ?_)
clear hK K
refine norm_ (a' := _) (show Act.put _ (some 6) _ = _ from na) ?_
exact norm_ nz (hJ2_7_12 (v111, v117, gb122) _ ⟨hHeld, (rr HO112), (rr HO118), (rk BK107), (rk BK108), (rk BK122), GW122.out, GE122.out, NB107_122.out, NB122_107.out, NB108_122.out, NB122_108.out, (rb3 HB GE107 GE108 GE122)⟩)
)
)
)
·(
skip
rintro ⟨v111, v114⟩ w94 ⟨hHeld, h0_, h1_, h2_, h3_⟩
(try dsimp only at hHeld h0_ h1_ h2_ h3_)
have HO115 := am h0_; replace BK107 := am h1_; replace BK108 := am h2_; replace HB := am h3_
clear h0_ h1_ h2_ h3_
refine norm_ (a' := _) nr ?_
refine two_ (i := 7) (j := 12) (Ni := some 23) (Nj := some 6) (bm 14 1791) (bm 14 5759) rfl rfl rfl rfl (two_of HT_.out (by kernel_rfl)) (by decide) (by decide) (fun K hK => ?_) (fun K hK => ?_)
·(
skip
refine Kd.R_lit_step Kd.string _ 9 ?hg (N := 23) ?hd (xs := ([a1] : List ByteArray)) (inner := [.string a1]) (ok := fun _ => True) (okp := fun _ => True) ?hr ?hp (fun _ hk => hk) trivial (Below.refl _ _) (Nat.le_refl _) (by simp) ?_; (case hd => rfl); (case hg => rfl); (case hr => first | (go_simp; done) | (go_simp; rfl)); (case hp => exact (Reps.one (show Kd.M Kd.string _ _ _ a1 [.string a1] from rfl) (Reps.none _ _)))
intro v117 w95 ho96 hb hg_ hnew_
clear hg_ hnew_
(first | rw [← Ny116.out] at ho96 | (simp only [Int.reduceToNat] at ho96; rw [← Ny116.out] at ho96))
have HO118 := am (Kd.R_lower (Kd.R_new' ho96 (Kd.R_lt (rr HO115))) (below_size (rb2 HB GE107 GE108)))
replace HO115 := am (Kd.R_elder' (rr HO115) (Kd.R_base ho96) hb)
replace BK107 := am (blk_below (rk BK107) hb)
replace BK108 := am (blk_below (rk BK108) hb)
replace HB := am (below_step (rb2 HB GE107 GE108) hb)
clear hb ho96
refine hK.out _ _ (bc3 BK107) (fun hHeld => ?_)
clear hK K
refine norm_ (a' := _) (show Act.put _ (some 23) _ = _ from na) ?_
exact norm_ nz (hJ2_5_7 (v111, v114, v117) _ ⟨hHeld, (rrm HO115), (rrm HO118), (rk BK107), (rk BK108), (rb2 HB GE107 GE108)⟩)
)
·(
skip
refine box_step ?hg (N := 6) ?hd (cs := #[.int .i64 0, .slice none 0 0, .int .i64 0]) (t := 26) ?hr ?_; (case hd => rfl); (case hg => rfl); (case hr => first | (go_simp; done) | (go_simp; rfl))
intro gb122 hg w95 hbox hb
replace HO115 := am (Kd.R_below (rr HO115) hb)
have BK122 := am (hbox)
have GW122 := am (gw hg (rb2 HB GE107 GE108))
have GE122 := GW122
replace HB := am (below_step (rb2 HB GE107 GE108) hb)
have NB107_122 := am (nl hg (rk BK107))
have NB122_107 := am (ng hg (rk BK107))
replace BK107 := am (blk_below (rk BK107) hb)
have NB108_122 := am (nl hg (rk BK108))
have NB122_108 := am (ng hg (rk BK108))
replace BK108 := am (blk_below (rk BK108) hb)
clear hb hbox hg
refine hK.out _ _ (bc3 BK107) (fun hHeld => ?_)
clear hK K
refine norm_ (a' := _) (show Act.put _ (some 6) _ = _ from na) ?_
exact norm_ nz (hJ2_5_12 (v111, v114, gb122) _ ⟨hHeld, (rr HO115), (rk BK107), (rk BK108), (rk BK122), GW122.out, GE122.out, NB107_122.out, NB122_107.out, NB108_122.out, NB122_108.out, (rb3 HB GE107 GE108 GE122)⟩)
)
)
)
·(
skip
rintro ⟨v111, v117, gb122⟩ w96 ⟨hHeld, h0_, h1_, h2_, h3_, h4_, h5_, h6_, h7_, h8_, h9_, h10_, h11_⟩
(try dsimp only at hHeld h0_ h1_ h2_ h3_ h4_ h5_ h6_ h7_ h8_ h9_ h10_ h11_)
have HO112 := am h0_; have HO118 := am h1_; replace BK107 := am h2_; replace BK108 := am h3_; have BK122 := am h4_; have GW122 := am h5_; have GE122 := am h6_; have NB107_122 := am h7_; have NB122_107 := am h8_; have NB108_122 := am h9_; have NB122_108 := am h10_; replace HB := am h11_
clear h0_ h1_ h2_ h3_ h4_ h5_ h6_ h7_ h8_ h9_ h10_ h11_
refine norm_ (a' := _) nr ?_
refine one_ (i := 5) (N := some 21) (bm 14 5887) rfl rfl (one_of HT_.out (by kernel_rfl)) (by decide) (fun K hK => ?_)
refine Kd.R_append_rows_step Kd.string (w0 := w) w.heap.size (by rfl) (.tmp 18) (.tmp 20) 24 9 (.string ⟨#[]⟩) 16 rfl Try.underlying24 info9 rfl (by decide) (by omega) v111 y110 l0_1 _ _ _ (fun k_ => some k_ ≠ (v117 : Value).ownBlock) (fun _ => False) rfl rfl ?aO ?aR (fun _ _ h => h) (fun _ h => h.elim) ?aF ?aB ?aS ?aL ?_
(case aR => repeat (first | exact (Kd.C_below HR0_1.out HB.out) | (with_reducible refine Kd.C_alloc ?_ _) | (with_reducible refine Kd.C_drewN ?_ _) | (with_reducible refine Kd.C_drew ?_)))
(case aB => exact (rb3 HB GE107 GE108 GE122))
(case aF => exact (fun k_ hk => Kd.fresh' (Kd.R_lt (rr HO118)) k_ hk))
(case aO => exact (rr HO112))
(case aS => exact (below_size (rb3 HB GE107 GE108 GE122)))
(case aL => have := LMc17.out; omega)
intro v114 w97 ho hb hg hat
rw [← Ny113.out] at ho
replace BK107 := am (blk_grown (rk BK107) hg (Kd.R_ne HO112.out BK107.out (by decide)))
replace BK108 := am (blk_grown (rk BK108) hg (Kd.R_ne HO112.out BK108.out (by decide)))
replace HO118 := am (Kd.R_after (ok := (fun _ => True)) (by (with_reducible repeat (first | apply r1 | apply r2 | apply r3)); exact Kd.R_mono HO118.out (fun _ hk => ⟨trivial, hk⟩)) hg hat)
replace BK122 := am (blk_grown (rk BK122) hg (Kd.R_ne HO112.out BK122.out (by decide)))
replace HB := am (hb)
have HO115 := am (ho)
clear HO112
clear ho hb hg hat
refine hK.out _ _ (bc3 BK107) (fun hHeld => ?_)
clear hK K
refine norm_ (a' := _) (show Act.put _ (some 21) _ = _ from na) ?_
exact norm_ nz (hJ2_5_7_12 (v111, v114, v117, gb122) _ ⟨hHeld, (rr HO115), (rrm HO118), (rk BK107), (rk BK108), (rk BK122), GW122.out, GE122.out, NB107_122.out, NB122_107.out, NB108_122.out, NB122_108.out, (rb3 HB GE107 GE108 GE122)⟩)
)
)
·(
skip
rintro ⟨v111, v114, gb122⟩ w95 ⟨hHeld, h0_, h1_, h2_, h3_, h4_, h5_, h6_, h7_, h8_, h9_, h10_⟩
(try dsimp only at hHeld h0_ h1_ h2_ h3_ h4_ h5_ h6_ h7_ h8_ h9_ h10_)
have HO115 := am h0_; replace BK107 := am h1_; replace BK108 := am h2_; have BK122 := am h3_; have GW122 := am h4_; have GE122 := am h5_; have NB107_122 := am h6_; have NB122_107 := am h7_; have NB108_122 := am h8_; have NB122_108 := am h9_; replace HB := am h10_
clear h0_ h1_ h2_ h3_ h4_ h5_ h6_ h7_ h8_ h9_ h10_
refine norm_ (a' := _) nr ?_
refine one_ (i := 7) (N := some 23) (bm 14 5887) rfl rfl (one_of HT_.out (by kernel_rfl)) (by decide) (fun K hK => ?_)
refine Kd.R_lit_step Kd.string _ 9 ?hg (N := 23) ?hd (xs := ([a1] : List ByteArray)) (inner := [.string a1]) (ok := fun _ => True) (okp := fun _ => True) ?hr ?hp (fun _ hk => hk) trivial (Below.refl _ _) (Nat.le_refl _) (by simp) ?_; (case hd => rfl); (case hg => rfl); (case hr => first | (go_simp; done) | (go_simp; rfl)); (case hp => exact (Reps.one (show Kd.M Kd.string _ _ _ a1 [.string a1] from rfl) (Reps.none _ _)))
intro v117 w96 ho97 hb hg_ hnew_
clear hg_ hnew_
(first | rw [← Ny116.out] at ho97 | (simp only [Int.reduceToNat] at ho97; rw [← Ny116.out] at ho97))
have HO118 := am (Kd.R_lower (Kd.R_new' ho97 (Kd.R_lt (rr HO115))) (below_size (rb3 HB GE107 GE108 GE122)))
replace HO115 := am (Kd.R_elder' (rr HO115) (Kd.R_base ho97) hb)
replace BK107 := am (blk_below (rk BK107) hb)
replace BK108 := am (blk_below (rk BK108) hb)
replace BK122 := am (blk_below (rk BK122) hb)
replace HB := am (below_step (rb3 HB GE107 GE108 GE122) hb)
clear hb ho97
refine hK.out _ _ (bc3 BK107) (fun hHeld => ?_)
clear hK K
refine norm_ (a' := _) (show Act.put _ (some 23) _ = _ from na) ?_
exact norm_ nz (hJ2_5_7_12 (v111, v114, v117, gb122) _ ⟨hHeld, (rrm HO115), (rrm HO118), (rk BK107), (rk BK108), (rk BK122), GW122.out, GE122.out, NB107_122.out, NB122_107.out, NB108_122.out, NB122_108.out, (rb3 HB GE107 GE108 GE122)⟩)
)
)
·(
skip
rintro ⟨v111, v114, v117⟩ w96 ⟨hHeld, h0_, h1_, h2_, h3_, h4_⟩
(try dsimp only at hHeld h0_ h1_ h2_ h3_ h4_)
have HO115 := am h0_; have HO118 := am h1_; replace BK107 := am h2_; replace BK108 := am h3_; replace HB := am h4_
clear h0_ h1_ h2_ h3_ h4_
obtain ⟨Ao98, co98, eo98⟩ := Kd.R_slice HO118.out
(first | subst eo98 | (injection eo98 with f1_ f2_ f3_; have f4_ := f1_.symm; have f5_ := f3_.symm; clear f1_ f2_ f3_; subst f4_; subst f5_))
refine norm_ (a' := _) nr ?_
refine two_ (i := 8) (j := 12) (Ni := some 24) (Nj := some 6) (bm 14 2047) (bm 14 5887) rfl rfl rfl rfl (two_of HT_.out (by kernel_rfl)) (by decide) (by decide) (fun K hK => ?_) (fun K hK => ?_)
·(
skip
refine Kd.R_append_rows_step Kd.string (w0 := w) w.heap.size (by rfl) (.tmp 21) (.tmp 23) 24 9 (.string ⟨#[]⟩) 16 rfl Try.underlying24 info9 rfl (by decide) (by omega) v114 y113 y116 _ _ _ (fun k_ => some k_ ≠ (.slice Ao98 y116.length co98 : Value).ownBlock) (fun _ => False) rfl rfl ?aO ?aR (fun _ _ h => h) (fun _ h => h.elim) ?aF ?aB ?aS ?aL ?_
(case aR => repeat (first | exact (Kd.R_reads' HO118.out).2.2 | (with_reducible refine Kd.C_alloc ?_ _) | (with_reducible refine Kd.C_drewN ?_ _) | (with_reducible refine Kd.C_drew ?_)))
(case aB => exact (rb2 HB GE107 GE108))
(case aF => exact (fun k_ hk => Kd.fresh' (Kd.R_lt (rr HO118)) k_ hk))
(case aO => exact (rr HO115))
(case aS => exact (below_size (rb2 HB GE107 GE108)))
(case aL => have := LMc18.out; omega)
intro v120 w97 ho hb hg hat
rw [← Ny119.out] at ho
replace BK107 := am (blk_grown (rk BK107) hg (Kd.R_ne HO115.out BK107.out (by decide)))
replace BK108 := am (blk_grown (rk BK108) hg (Kd.R_ne HO115.out BK108.out (by decide)))
replace HO118 := am (Kd.R_after (ok := (fun _ => True)) (by (with_reducible repeat (first | apply r1 | apply r2 | apply r3)); exact Kd.R_mono HO118.out (fun _ hk => ⟨trivial, hk⟩)) hg hat)
replace HB := am (hb)
have HO121 := am (ho)
clear HO115
clear ho hb hg hat
obtain ⟨Ao99, co99, eo99⟩ := Kd.R_slice HO121.out
(first | subst eo99 | (injection eo99 with f1_ f2_ f3_; have f4_ := f1_.symm; have f5_ := f3_.symm; clear f1_ f2_ f3_; subst f4_; subst f5_))
refine hK.out _ _ (bc3 BK107) (fun hHeld => ?_)
clear hK K
refine norm_ (a' := _) (show Act.put _ (some 24) _ = _ from na) ?_
refine pu_ 11 27 (bm 14 4095) HT_.out ?_
exact norm_ nz (hJ2_5_7_8 (v111, v114, .slice Ao98 y116.length co98, .slice Ao99 y119.length co99) _ ⟨hHeld, (rrm HO118), (rr HO121), (rk BK107), (rk BK108), (rb2 HB GE107 GE108)⟩)
)
·(
skip
refine box_step ?hg (N := 6) ?hd (cs := #[.int .i64 0, .slice none 0 0, .int .i64 0]) (t := 26) ?hr ?_; (case hd => rfl); (case hg => rfl); (case hr => first | (go_simp; done) | (go_simp; rfl))
intro gb122 hg w97 hbox hb
replace HO115 := am (Kd.R_below (rr HO115) hb)
replace HO118 := am (Kd.R_below (rr HO118) hb)
have BK122 := am (hbox)
have GW122 := am (gw hg (rb2 HB GE107 GE108))
have GE122 := GW122
replace HB := am (below_step (rb2 HB GE107 GE108) hb)
have NB107_122 := am (nl hg (rk BK107))
have NB122_107 := am (ng hg (rk BK107))
replace BK107 := am (blk_below (rk BK107) hb)
have NB108_122 := am (nl hg (rk BK108))
have NB122_108 := am (ng hg (rk BK108))
replace BK108 := am (blk_below (rk BK108) hb)
clear hb hbox hg
refine hK.out _ _ (bc3 BK107) (fun hHeld => ?_)
clear hK K
refine norm_ (a' := _) (show Act.put _ (some 6) _ = _ from na) ?_
exact norm_ nz (hJ2_5_7_12 (v111, v114, .slice Ao98 y116.length co98, gb122) _ ⟨hHeld, (rr HO115), (rr HO118), (rk BK107), (rk BK108), (rk BK122), GW122.out, GE122.out, NB107_122.out, NB122_107.out, NB108_122.out, NB122_108.out, (rb3 HB GE107 GE108 GE122)⟩)
)
)
)
·(
skip
rintro ⟨v111, v114, v117, gb122⟩ w97 ⟨hHeld, h0_, h1_, h2_, h3_, h4_, h5_, h6_, h7_, h8_, h9_, h10_, h11_⟩
(try dsimp only at hHeld h0_ h1_ h2_ h3_ h4_ h5_ h6_ h7_ h8_ h9_ h10_ h11_)
have HO115 := am h0_; have HO118 := am h1_; replace BK107 := am h2_; replace BK108 := am h3_; have BK122 := am h4_; have GW122 := am h5_; have GE122 := am h6_; have NB107_122 := am h7_; have NB122_107 := am h8_; have NB108_122 := am h9_; have NB122_108 := am h10_; replace HB := am h11_
clear h0_ h1_ h2_ h3_ h4_ h5_ h6_ h7_ h8_ h9_ h10_ h11_
obtain ⟨Ao99, co99, eo99⟩ := Kd.R_slice HO118.out
(first | subst eo99 | (injection eo99 with f1_ f2_ f3_; have f4_ := f1_.symm; have f5_ := f3_.symm; clear f1_ f2_ f3_; subst f4_; subst f5_))
refine norm_ (a' := _) nr ?_
refine one_ (i := 8) (N := some 24) (bm 14 6143) rfl rfl (one_of HT_.out (by kernel_rfl)) (by decide) (fun K hK => ?_)
refine Kd.R_append_rows_step Kd.string (w0 := w) w.heap.size (by rfl) (.tmp 21) (.tmp 23) 24 9 (.string ⟨#[]⟩) 16 rfl Try.underlying24 info9 rfl (by decide) (by omega) v114 y113 y116 _ _ _ (fun k_ => some k_ ≠ (.slice Ao99 y116.length co99 : Value).ownBlock) (fun _ => False) rfl rfl ?aO ?aR (fun _ _ h => h) (fun _ h => h.elim) ?aF ?aB ?aS ?aL ?_
(case aR => repeat (first | exact (Kd.R_reads' HO118.out).2.2 | (with_reducible refine Kd.C_alloc ?_ _) | (with_reducible refine Kd.C_drewN ?_ _) | (with_reducible refine Kd.C_drew ?_)))
(case aB => exact (rb3 HB GE107 GE108 GE122))
(case aF => exact (fun k_ hk => Kd.fresh' (Kd.R_lt (rr HO118)) k_ hk))
(case aO => exact (rr HO115))
(case aS => exact (below_size (rb3 HB GE107 GE108 GE122)))
(case aL => have := LMc18.out; omega)
intro v120 w98 ho hb hg hat
rw [← Ny119.out] at ho
replace BK107 := am (blk_grown (rk BK107) hg (Kd.R_ne HO115.out BK107.out (by decide)))
replace BK108 := am (blk_grown (rk BK108) hg (Kd.R_ne HO115.out BK108.out (by decide)))
replace HO118 := am (Kd.R_after (ok := (fun _ => True)) (by (with_reducible repeat (first | apply r1 | apply r2 | apply r3)); exact Kd.R_mono HO118.out (fun _ hk => ⟨trivial, hk⟩)) hg hat)
replace BK122 := am (blk_grown (rk BK122) hg (Kd.R_ne HO115.out BK122.out (by decide)))
replace HB := am (hb)
have HO121 := am (ho)
clear HO115
clear ho hb hg hat
obtain ⟨Ao100, co100, eo100⟩ := Kd.R_slice HO121.out
(first | subst eo100 | (injection eo100 with f1_ f2_ f3_; have f4_ := f1_.symm; have f5_ := f3_.symm; clear f1_ f2_ f3_; subst f4_; subst f5_))
refine hK.out _ _ (bc3 BK107) (fun hHeld => ?_)
clear hK K
refine norm_ (a' := _) (show Act.put _ (some 24) _ = _ from na) ?_
refine pu_ 11 27 (bm 14 8191) HT_.out ?_
exact norm_ nz (hJ2_5_7_8_12 (v111, v114, .slice Ao99 y116.length co99, .slice Ao100 y119.length co100, gb122) _ ⟨hHeld, (rrm HO118), (rr HO121), (rk BK107), (rk BK108), (rk BK122), GW122.out, GE122.out, NB107_122.out, NB122_107.out, NB108_122.out, NB122_108.out, (rb3 HB GE107 GE108 GE122)⟩)
)
)
·(
skip
rintro ⟨v111, v114, v117, v120⟩ w99 ⟨hHeld, h0_, h1_, h2_, h3_, h4_⟩
(try dsimp only at hHeld h0_ h1_ h2_ h3_ h4_)
have HO118 := am h0_; have HO121 := am h1_; replace BK107 := am h2_; replace BK108 := am h3_; replace HB := am h4_
clear h0_ h1_ h2_ h3_ h4_
obtain ⟨Ao100, co100, eo100⟩ := Kd.R_slice HO121.out
(first | subst eo100 | (injection eo100 with f1_ f2_ f3_; have f4_ := f1_.symm; have f5_ := f3_.symm; clear f1_ f2_ f3_; subst f4_; subst f5_))
refine norm_ (a' := _) nr ?_
refine one_ (i := 12) (N := some 6) (bm 14 8191) rfl rfl (one_of HT_.out (by kernel_rfl)) (by decide) (fun K hK => ?_)
refine box_step ?hg (N := 6) ?hd (cs := #[.int .i64 0, .slice none 0 0, .int .i64 0]) (t := 26) ?hr ?_; (case hd => rfl); (case hg => rfl); (case hr => first | (go_simp; done) | (go_simp; rfl))
intro gb122 hg w101 hbox hb
replace HO118 := am (Kd.R_below (rr HO118) hb)
replace HO121 := am (Kd.R_below (rr HO121) hb)
have BK122 := am (hbox)
have GW122 := am (gw hg (rb2 HB GE107 GE108))
have GE122 := GW122
replace HB := am (below_step (rb2 HB GE107 GE108) hb)
have NB107_122 := am (nl hg (rk BK107))
have NB122_107 := am (ng hg (rk BK107))
replace BK107 := am (blk_below (rk BK107) hb)
have NB108_122 := am (nl hg (rk BK108))
have NB122_108 := am (ng hg (rk BK108))
replace BK108 := am (blk_below (rk BK108) hb)
clear hb hbox hg
refine hK.out _ _ (bc3 BK107) (fun hHeld => ?_)
clear hK K
refine norm_ (a' := _) (show Act.put _ (some 6) _ = _ from na) ?_
exact norm_ nz (hJ2_5_7_8_12 (v111, v114, v117, .slice Ao100 y119.length co100, gb122) _ ⟨hHeld, (rr HO118), (rr HO121), (rk BK107), (rk BK108), (rk BK122), GW122.out, GE122.out, NB107_122.out, NB122_107.out, NB108_122.out, NB122_108.out, (rb3 HB GE107 GE108 GE122)⟩)
)
)
rintro ⟨v111, v114, v117, v120, gb122⟩ w100 ⟨hHeld, h0_, h1_, h2_, h3_, h4_, h5_, h6_, h7_, h8_, h9_, h10_, h11_⟩
(try dsimp only at hHeld h0_ h1_ h2_ h3_ h4_ h5_ h6_ h7_ h8_ h9_ h10_ h11_)
have HO118 := am h0_; have HO121 := am h1_; replace BK107 := am h2_; replace BK108 := am h3_; have BK122 := am h4_; have GW122 := am h5_; have GE122 := am h6_; have NB107_122 := am h7_; have NB122_107 := am h8_; have NB108_122 := am h9_; have NB122_108 := am h10_; replace HB := am h11_
clear h0_ h1_ h2_ h3_ h4_ h5_ h6_ h7_ h8_ h9_ h10_ h11_
obtain ⟨Ao101, co101, eo101⟩ := Kd.R_slice HO121.out
(first | subst eo101 | (injection eo101 with f1_ f2_ f3_; have f4_ := f1_.symm; have f5_ := f3_.symm; clear f1_ f2_ f3_; subst f4_; subst f5_))
refine norm_ (a' := _) nr ?_
refine one_ (i := 13) (N := none) (bm 14 16383) rfl rfl (one_of HT_.out (by kernel_rfl)) (by decide) (fun K hK => ?_)
have hs102 : w100.cell? ⟨gb122, 0, none⟩ = some (.int .i64 0) := (blk_cell BK122.out 0).trans rfl
have hfs102 := blk_frozen BK122.out 0
have hns102_0 := NB107_122.out
have hns102_1 := NB108_122.out
have hms102_0 := NB122_107.out
have hms102_1 := NB122_108.out
have hs103 : w100.cell? ⟨gb122, 1, none⟩ = some (.slice none 0 0) := (blk_cell BK122.out 1).trans rfl
have hfs103 := blk_frozen BK122.out 1
have hns103_0 := NB107_122.out
have hns103_1 := NB108_122.out
have hms103_0 := NB122_107.out
have hms103_1 := NB122_108.out
have hs104 : w100.cell? ⟨gb122, 2, none⟩ = some (.int .i64 0) := (blk_cell BK122.out 2).trans rfl
have hfs104 := blk_frozen BK122.out 2
have hns104_0 := NB107_122.out
have hns104_1 := NB108_122.out
have hms104_0 := NB122_107.out
have hms104_1 := NB122_108.out
refine skip_ (w1 := ?_) (by rfl) rfl ?_ ?_
rotate_left
·(
go_simp
rfl
)
refine hK.out _ _ ⟨((cell_far (p := ⟨gb122, _, none⟩) NB107_122.out _).trans (((cell_far (p := ⟨gb122, _, none⟩) NB107_122.out _).trans (((cell_far (p := ⟨gb122, _, none⟩) NB107_122.out _).trans (hHeld.1)))))), ((cell_far (p := ⟨gb122, _, none⟩) NB107_122.out _).trans (((cell_far (p := ⟨gb122, _, none⟩) NB107_122.out _).trans (((cell_far (p := ⟨gb122, _, none⟩) NB107_122.out _).trans (hHeld.2.1)))))), ((cell_far (p := ⟨gb122, _, none⟩) NB107_122.out _).trans (((cell_far (p := ⟨gb122, _, none⟩) NB107_122.out _).trans (((cell_far (p := ⟨gb122, _, none⟩) NB107_122.out _).trans (hHeld.2.2))))))⟩ (fun hHeld => ?_)
clear hK K
refine done_ (done_of HT_.out (by kernel_rfl)) ?_
have hnb105 := NB122_107.out
have hnc105 := NB107_122.out
have hnb106 := NB122_108.out
have hnc106 := NB108_122.out
have hcz107_0 : w100.cell? ⟨gb122, 0, none⟩ = some (.int .i64 0) := (blk_cell BK122.out 0).trans rfl
have hcz107_1 : w100.cell? ⟨gb122, 1, none⟩ = some (.slice none 0 0) := (blk_cell BK122.out 1).trans rfl
have hcz107_2 : w100.cell? ⟨gb122, 2, none⟩ = some (.int .i64 0) := (blk_cell BK122.out 2).trans rfl
have hfz107_0 := blk_frozen BK122.out 0
have hfz107_1 := blk_frozen BK122.out 1
have hfz107_2 := blk_frozen BK122.out 2
have hnb108 := NB107_108.out
have hnc108 := NB108_107.out
have hcz109_0 : w100.cell? ⟨gb107, 0, none⟩ = some (.int .i64 a0_0) := (blk_cell BK107.out 0).trans rfl
have hcz109_1 : w100.cell? ⟨gb107, 1, none⟩ = some (.slice A0_1 l0_1.length c0_1) := (blk_cell BK107.out 1).trans rfl
have hcz109_2 : w100.cell? ⟨gb107, 2, none⟩ = some (.int .i64 a0_2) := (blk_cell BK107.out 2).trans rfl
have hfz109_0 := blk_frozen BK107.out 0
have hfz109_1 := blk_frozen BK107.out 1
have hfz109_2 := blk_frozen BK107.out 2
have hcz110_0 : w100.cell? ⟨gb108, 0, none⟩ = some (.int .i64 0) := (blk_cell BK108.out 0).trans rfl
have hcz110_1 : w100.cell? ⟨gb108, 1, none⟩ = some (.slice none 0 0) := (blk_cell BK108.out 1).trans rfl
have hcz110_2 : w100.cell? ⟨gb108, 2, none⟩ = some (.int .i64 0) := (blk_cell BK108.out 2).trans rfl
have hfz110_0 := blk_frozen BK108.out 0
have hfz110_1 := blk_frozen BK108.out 1
have hfz110_2 := blk_frozen BK108.out 2
try go_wp2
refine bodyPost_ret (results_ct rfl _ _ gb108 26 #[.int .i64 a0_0, .slice Ao101 y119.length co101, .int .i64 a0_2] (0, 0) _ rfl (by (with_reducible repeat (first | apply k1 | apply k2 | apply k3)); refine blk_put (cs := #[.int .i64 a0_0, .slice Ao101 y119.length co101, .int .i64 0]) ?_ 2 _ rfl; (with_reducible repeat (first | apply k1 | apply k2 | apply k3)); refine blk_put (cs := #[.int .i64 a0_0, .slice none 0 0, .int .i64 0]) ?_ 1 _ rfl; (with_reducible repeat (first | apply k1 | apply k2 | apply k3)); refine blk_put (cs := #[.int .i64 0, .slice none 0 0, .int .i64 0]) ?_ 0 _ rfl; (with_reducible repeat (first | apply k1 | apply k2 | apply k3)); refine blk_far ?_ NB108_122.out _; (with_reducible repeat (first | apply k1 | apply k2 | apply k3)); refine blk_far ?_ NB108_122.out _; (with_reducible repeat (first | apply k1 | apply k2 | apply k3)); refine blk_far ?_ NB108_122.out _; (with_reducible repeat (first | apply k1 | apply k2 | apply k3)); exact BK108.out) Try.underlying26 rfl (by kernel_rfl)) rfl ?_
exact ⟨_, by first | rfl | (simp [errW_none, errW_some] <;> rfl) | (simp [*, errW_none, errW_some] <;> rfl), Kd.Q_of_R (by (with_reducible repeat (first | apply r1 | apply r2 | apply r3)); exact Kd.R_mono (Kd.R_far (p := ⟨gb108, 2, none⟩) (Kd.R_far (p := ⟨gb108, 1, none⟩) (Kd.R_far (p := ⟨gb108, 0, none⟩) (Kd.R_far (p := ⟨gb122, 2, none⟩) (Kd.R_far (p := ⟨gb122, 1, none⟩) (Kd.R_far (p := ⟨gb122, 0, none⟩) (Kd.R_types (Kd.R_types HO121.out BK122.out (by decide)) BK108.out (by decide)) (fun _ hk => hk.1.2) (.int .i64 a0_0)) (fun _ hk => hk.1.2) (.slice Ao101 y119.length co101)) (fun _ hk => hk.1.2) (.int .i64 a0_2)) (fun _ hk => hk.2) (.int .i64 a0_0)) (fun _ hk => hk.2) (.slice Ao101 y119.length co101)) (fun _ hk => hk.2) (.int .i64 a0_2)) (fun _ hk => trivial)), rb3 HB GE107 GE108 GE122⟩
)
)
)
·(
rw [if_neg c18] at H
exact absurd H (by simp)
)
)
·(
rw [if_neg c17] at H
exact absurd H (by simp)
)
)
)
)
)

end Go.Proofs.Ytalopdcephohgaa.RA
