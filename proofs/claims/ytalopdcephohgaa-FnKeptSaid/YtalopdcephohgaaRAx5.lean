/- Contracts of Go functions that laws of this seat reach: each Lean function answers as its Go function does. No condition. Written by wip/tools/inj.py, over the kit's print. -/
import Derived.Test.YtalopdcephohgaaRAx0
import Derived.Test.YtalopdcephohgaaRAx1
import Derived.Test.YtalopdcephohgaaRAx3
import Derived.Test.YtalopdcephohgaaRAx4
namespace Go.Proofs.Ytalopdcephohgaa.RA
open Go.RowKit Go.Proofs.YtalopdcephohgaaW.PrintWords Go.Proofs.YtalopdcephohgaaW.PrintLast Go.Proofs.YtalopdcephohgaaW.PrintMore
attribute [local go_sem] max2_int min2_int max_two min_two max_three min_three max_four min_four   -- for this text's walks alone
set_option linter.unusedVariables false
set_option linter.unusedSimpArgs false

/-! ### spec_l12Draw: function 50 -/
def spec_l12Draw.l0 : Nat → Int → List Int → Int → Int → Int → List ByteArray → Int → Option (Int × List ByteArray × Int × Int × Int)
 | 0, _, _, _, _, _, _, _ => none
 | k + 1, x5, x1000, x1001, x1002, x158000, x158001, x158002 => if x5 > 0 then ((some (([(⟨#[97, 98, 97, 98]⟩ : ByteArray), (⟨#[98, 97]⟩ : ByteArray), (⟨#[]⟩ : ByteArray), (⟨#[120, 97, 98]⟩ : ByteArray), (⟨#[97, 97, 98]⟩ : ByteArray)] : List ByteArray) : List ByteArray)).bind fun y161 => ((spec_l1Below.f x1000 x1001 x1002 5).bind fun bt164 => (if 0 ≤ bt164.1 then (if bt164.1 < (y161.length : Int) then ((spec_Keep.f k x158000 x158001 x158002 (rdOf ByteArray.empty y161 bt164.1)).bind fun bt168 => (spec_l12Draw.l0 k (wrap64 (x5 - 1)) x1000 bt164.2.1 bt164.2.2 bt168.1 bt168.2.1 bt168.2.2.1)) else (none)) else (none)))) else ((spec_l1Once.f x1000 x1001 x1002 12).bind fun bt174 => (if bt174.1 = true then ((spec_l1Below.f x1000 bt174.2.1 bt174.2.2 3).bind fun bt177 => (if bt177.1 = 0 then ((some (([0, 1, 200, 201] : List Int) : List Int)).bind fun y180 => ((spec_l1Below.f x1000 bt177.2.1 bt177.2.2 4).bind fun bt183 => (if 0 ≤ bt183.1 then (if bt183.1 < (y180.length : Int) then (some (rd y180 bt183.1, x158001, x158002, bt183.2.1, bt183.2.2)) else (none)) else (none)))) else (if bt177.1 = 1 then ((some (([(-1), 1000000, 1000001, 999999] : List Int) : List Int)).bind fun y187 => ((spec_l1Below.f x1000 bt177.2.1 bt177.2.2 4).bind fun bt190 => (if 0 ≤ bt190.1 then (if bt190.1 < (y187.length : Int) then (some (x158000, x158001, rd y187 bt190.1, bt190.2.1, bt190.2.2)) else (none)) else (none)))) else (if bt177.1 = 2 then ((spec_l1Below.f x1000 bt177.2.1 bt177.2.2 2).bind fun bt194 => (if 0 ≤ (wrap64 (300 + bt194.1)) then (if (wrap64 (300 + bt194.1) : Int).toNat ≤ 281474976710656 then (if x158001.length < 8796093022208 then (some (x158000, (x158001 ++ [strOfNums (List.replicate (wrap64 (300 + bt194.1) : Int).toNat 0)]), x158002, bt194.2.1, bt194.2.2)) else (none)) else (none)) else (none))) else (some (x158000, x158001, x158002, bt177.2.1, bt177.2.2)))))) else (some (x158000, x158001, x158002, bt174.2.1, bt174.2.2))))
def spec_l12Draw.f (k : Nat) (s0_0 : List Int) (s0_1 : Int) (s0_2 : Int) : Option (Int × List ByteArray × Int × Int × Int) := (spec_l1Below.f s0_0 s0_1 s0_2 5).bind fun bt148 => ((spec_NewHistory.f (wrap64 (1 + bt148.1))).bind fun bt151 => ((spec_l1Below.f s0_0 bt148.2.1 bt148.2.2 9).bind fun bt158 => (spec_l12Draw.l0 k bt158.1 s0_0 bt158.2.1 bt158.2.2 bt151.1 bt151.2.1 bt151.2.2.1)))
theorem spec_l12Draw.mono_l : ∀ k, (∀ y0 y1 y2 y3 y4 y5 y6, LeO (spec_l12Draw.l0 k y0 y1 y2 y3 y4 y5 y6) (spec_l12Draw.l0 (k + 1) y0 y1 y2 y3 y4 y5 y6))
 | 0 => fun _ _ _ _ _ _ _ r h => by simp [spec_l12Draw.l0] at h
 | k + 1 => by
  have ih0 := spec_l12Draw.mono_l k
  ·intro y0 y1 y2 y3 y4 y5 y6
   unfold spec_l12Draw.l0
   repeat' first
   | (with_reducible exact ih0 _ _ _ _ _ _ _)
   | (with_reducible exact spec_Keep.mono _ _ _ _ _)
   | (with_reducible exact LeO.refl _)
   | (with_reducible exact LeO.none _)
   | (with_reducible refine LeO.ite ?_ ?_)
   | (with_reducible refine LeO.bind ?_ (fun _ => ?_))
theorem spec_l12Draw.mono : ∀ a0 a1 a2 k, LeO (spec_l12Draw.f k a0 a1 a2) (spec_l12Draw.f (k + 1) a0 a1 a2) := by
 intro a0 a1 a2 k
 have ih0 := spec_l12Draw.mono_l k
 unfold spec_l12Draw.f
 repeat' first
   | (with_reducible exact ih0 _ _ _ _ _ _ _)
   | (with_reducible exact spec_Keep.mono _ _ _ _ _)
   | (with_reducible exact LeO.refl _)
   | (with_reducible exact LeO.none _)
   | (with_reducible refine LeO.ite ?_ ?_)
   | (with_reducible refine LeO.bind ?_ (fun _ => ?_))
def spec_l12Draw.T5 : Bool × List (List Nat × List Nat) := (true, [([], []), ([], []), ([], []), ([2], [2]), ([1, 3], [1, 3]), ([4], [4]), ([0, 5, 3], [0, 5]), ([6], [6]), ([7], [7]), ([7], [7]), ([8, 6, 0, 1, 2, 3, 4, 5, 6, 7, 8], [8])])
def spec_l12Draw.B5 : List Nat := [0, 0, 0, 4, 14, 30, 63, 127, 255, 255, 511]
theorem spec_l12Draw.tab5 : rtab .any (opsOf Try.f50 5) = spec_l12Draw.T5 := by kernel_rfl
theorem spec_l12Draw.bits5 : waitsOk spec_l12Draw.T5.2 spec_l12Draw.B5 = true := by kernel_rfl
def spec_l12Draw.T13 : Bool × List (List Nat × List Nat) := (true, [([], []), ([0], [0]), ([], []), ([2], [2]), ([3], [3]), ([4, 4], [4]), ([5], [5]), ([6], [6]), ([1, 7, 3], [1, 7]), ([0, 1, 2, 3, 4, 5, 6, 7, 8], []), ([9, 8, 8, 0, 1, 2, 3, 4, 5, 6, 7, 8], [8, 9])])
def spec_l12Draw.B13 : List Nat := [0, 1, 0, 4, 12, 28, 60, 124, 255, 511, 1023]
theorem spec_l12Draw.tab13 : rtab .any (opsOf Try.f50 13) = spec_l12Draw.T13 := by kernel_rfl
theorem spec_l12Draw.bits13 : waitsOk spec_l12Draw.T13.2 spec_l12Draw.B13 = true := by kernel_rfl
set_option maxHeartbeats 8000000 in
set_option maxRecDepth 100000 in
theorem spec_l12Draw.calls (k : Nat) (g : Nat) (s0_0 : List Int) (s0_1 : Int) (s0_2 : Int) (r1 : Int) (r2 : List ByteArray) (r3 : Int) (r4 : Int) (r5 : Int) (w0 w : World) (hI : IsS118 w0 w g s0_0 s0_1 s0_2) (hB : Below w0.heap.size w0 w) (h : spec_l12Draw.f k s0_0 s0_1 s0_2 = some (r1, r2, r3, r4, r5)) :
  Calls Try.prog 50 #[.pointer (some ⟨g, 0, none⟩)] w fun e w' => ∃ v1_ : Value, e = .returned (.agg #[.int .i64 r1, v1_, .int .i64 r3]) ∧ Kd.Q Kd.string 9 w' w.heap.size (fun _ => True) v1_ r2 ∧ IsS118 w0 w' g s0_0 r4 r5 ∧ Below w0.heap.size w0 w' ∧ KeepBut w w' g none := by
 (
have hu26 := Try.underlying26
have HI0 := am hI
have HK := am (KeepBut.refl w g none)
have HL := am hB.size
clear hI
have HW0 := am hB.size
have HB := am hB
clear hB
have H := h
unfold spec_l12Draw.f at H
clear h
replace H := Option.bind_eq_some_iff.mp H
obtain ⟨⟨t148, t149, t150⟩, A20, H⟩ := H
(try dsimp only at H)
have A2 := am A20
clear A20
replace H := Option.bind_eq_some_iff.mp H
obtain ⟨⟨t151, t152, t155, t156⟩, A30, H⟩ := H
(try dsimp only at H)
have A3 := am A30
clear A30
replace H := Option.bind_eq_some_iff.mp H
obtain ⟨⟨t158, t159, t160⟩, A40, H⟩ := H
(try dsimp only at H)
have A4 := am A40
clear A40
have H' := am H
clear H
go_enter Try.func50, Try.ntmps50
go_wp2_with (first | ((with_reducible refine gate_dst (N := 2) rfl ?_); refine box_event ?hg (N := 2) ?hd (cs := #[.int .i64 0, .slice none 0 0, .int .i64 0]) (t := 26) ?hr ?_; (case hd => rfl); (case hg => rfl); (case hr => first | (go_simp; done) | (go_simp; rfl)); intro gb147 hg w5 hbox hb; replace HB := am (below_step (rbi118 HB HI0 IsS118.ge) hb); have BK147 := am (hbox); have GW147 := am ((by rw [hg]; exact (keep_size (w := w) (g := g) (row := none) (rkk HK)) : w.heap.size ≤ gb147)); have GE147 := am ((Nat.le_trans HW0.out (by rw [hg]; exact (keep_size (w := w) (g := g) (row := none) (rkk HK)) : w.heap.size ≤ gb147) : w0.heap.size ≤ gb147)); replace HK := am (KeepBut.trans (rkk HK) (KeepBut.of_below hb g none) (.inl rfl)); have NB0_147 := am ((by rw [hg]; exact Nat.ne_of_lt (IsS118.lt (show IsS118 w0 _ g s0_0 s0_1 s0_2 from ri118 HI0)) : g ≠ gb147)); have NB147_0 := am ((by rw [hg]; exact Nat.ne_of_gt (IsS118.lt (show IsS118 w0 _ g s0_0 s0_1 s0_2 from ri118 HI0)) : gb147 ≠ g)); replace HI0 := am (IsS118.below (ri118 HI0) hb); clear hb hbox hg) | ((with_reducible refine gate_callee (f := 52) rfl ?_); refine gl_ (some 8) Try.func52 #[.pointer (some ⟨g, 0, none⟩), .int .i64 5] ?_; (with_reducible refine (spec_l1Below.calls g s0_0 s0_1 s0_2 5 t148 t149 t150 w0 _ ?side1 ?side2 A2.out).mono ?_); (case side1 => repeat (first | (with_reducible first | exact HI0.out | apply IsS118.alloc | apply IsS118.drewN | apply IsS118.drew | apply IsS118.set_1 | apply IsS118.set_2 | refine IsS118.far ?_ NB0_147.out _) | exact HI0.out)); (case side2 => repeat (first | (with_reducible first | exact HB.out | apply b1 | apply b2 | apply b3 | refine below_set ?_ (IsS118.ge HI0.out) | refine below_set ?_ GE147.out) | exact HB.out)); rintro e w6 ⟨rfl, hi, hb, hk⟩; refine ⟨_, rfl, ?_⟩; replace BK147 := am (KeepBut.blk hk (g' := gb147) (o := .cells #[.int .i64 0, .slice none 0 0, .int .i64 0] 26 (0, 0)) (rk BK147) NB147_0.out (by simp)); replace HK := am (KeepBut.trans (by repeat (first | (with_reducible first | exact HK.out | apply KeepBut.set_ | apply keep_drewN | apply keep_drew | apply keep_alloc | refine keep_far ?_ GW147.out _) | exact HK.out)) hk (.inl rfl)); replace HB := am (hb); replace HI0 := am (hi); (try clear hb); (try clear hb2); (try clear hk); (try clear hi)) | ((with_reducible refine gate_callee (f := 24) rfl ?_); refine gl_ (some 10) Try.func24 #[.int .i64 (wrap64 (1 + t148))] ?_; (with_reducible refine (spec_NewHistory.calls (wrap64 (1 + t148)) t151 t152 t155 t156 _ A3.out).mono ?_); rintro e w7 ⟨v153, rfl, ho0, hb⟩; refine ⟨_, rfl, ?_⟩; have HO154 := am (Kd.R_lower ho0 (keep_size (w := w) (g := g) (row := none) (by repeat (first | (with_reducible first | exact HK.out | apply KeepBut.set_ | apply keep_drewN | apply keep_drew | apply keep_alloc | refine keep_far ?_ GW147.out _) | exact HK.out)))); replace BK147 := am (blk_below (rk BK147) hb); replace HK := am (KeepBut.trans (by repeat (first | (with_reducible first | exact HK.out | apply KeepBut.set_ | apply keep_drewN | apply keep_drew | apply keep_alloc | refine keep_far ?_ GW147.out _) | exact HK.out)) (KeepBut.of_below hb g none) (.inl rfl)); replace HB := am (below_step (by repeat (first | (with_reducible first | exact HB.out | apply b1 | apply b2 | apply b3 | refine below_set ?_ (IsS118.ge HI0.out) | refine below_set ?_ GE147.out) | exact HB.out)) hb); replace HI0 := am (IsS118.below (by repeat (first | (with_reducible first | exact HI0.out | apply IsS118.alloc | apply IsS118.drewN | apply IsS118.drew | apply IsS118.set_1 | apply IsS118.set_2 | refine IsS118.far ?_ NB0_147.out _) | exact HI0.out)) hb); (try clear hb); (try clear hb2); (try clear hk); (try clear hi); (try clear ho0)) | ((with_reducible refine gate_dst (N := 3) rfl ?_); refine box_event ?hg (N := 3) ?hd (cs := #[.int .i64 0, .slice none 0 0, .int .i64 0]) (t := 26) ?hr ?_; (case hd => rfl); (case hg => rfl); (case hr => first | (go_simp; done) | (go_simp; rfl)); intro gb157 hg w8 hbox hb; replace HO154 := am (Kd.R_below (rr HO154) hb); replace HB := am (below_step (by repeat (first | (with_reducible first | exact HB.out | apply b1 | apply b2 | apply b3 | refine below_set ?_ (IsS118.ge HI0.out) | refine below_set ?_ GE147.out) | exact HB.out)) hb); have BK157 := am (hbox); have GW157 := am ((by rw [hg]; exact (keep_size (w := w) (g := g) (row := none) (by repeat (first | (with_reducible first | exact HK.out | apply KeepBut.set_ | apply keep_drewN | apply keep_drew | apply keep_alloc | refine keep_far ?_ GW147.out _) | exact HK.out))) : w.heap.size ≤ gb157)); have GE157 := am ((Nat.le_trans HW0.out (by rw [hg]; exact (keep_size (w := w) (g := g) (row := none) (by repeat (first | (with_reducible first | exact HK.out | apply KeepBut.set_ | apply keep_drewN | apply keep_drew | apply keep_alloc | refine keep_far ?_ GW147.out _) | exact HK.out))) : w.heap.size ≤ gb157) : w0.heap.size ≤ gb157)); replace HK := am (KeepBut.trans (by repeat (first | (with_reducible first | exact HK.out | apply KeepBut.set_ | apply keep_drewN | apply keep_drew | apply keep_alloc | refine keep_far ?_ GW147.out _) | exact HK.out)) (KeepBut.of_below hb g none) (.inl rfl)); have NB147_157 := am (nl hg (rk BK147)); have NB157_147 := am (ng hg (rk BK147)); replace BK147 := am (blk_below (rk BK147) hb); have NB0_157 := am ((by rw [hg]; exact Nat.ne_of_lt (IsS118.lt (show IsS118 w0 _ g s0_0 t149 t150 from by repeat (first | (with_reducible first | exact HI0.out | apply IsS118.alloc | apply IsS118.drewN | apply IsS118.drew | apply IsS118.set_1 | apply IsS118.set_2 | refine IsS118.far ?_ NB0_147.out _) | exact HI0.out))) : g ≠ gb157)); have NB157_0 := am ((by rw [hg]; exact Nat.ne_of_gt (IsS118.lt (show IsS118 w0 _ g s0_0 t149 t150 from by repeat (first | (with_reducible first | exact HI0.out | apply IsS118.alloc | apply IsS118.drewN | apply IsS118.drew | apply IsS118.set_1 | apply IsS118.set_2 | refine IsS118.far ?_ NB0_147.out _) | exact HI0.out))) : gb157 ≠ g)); replace HI0 := am (IsS118.below (by repeat (first | (with_reducible first | exact HI0.out | apply IsS118.alloc | apply IsS118.drewN | apply IsS118.drew | apply IsS118.set_1 | apply IsS118.set_2 | refine IsS118.far ?_ NB0_147.out _) | exact HI0.out)) hb); clear hb hbox hg; have hnb9 := NB157_147.out; have hnc9 := NB147_157.out; have hnb10 := NB157_0.out; have hnc10 := NB0_157.out; have hcz11_0 : w8.cell? ⟨gb157, 0, none⟩ = some (.int .i64 0) := (blk_cell BK157.out 0).trans rfl; have hcz11_1 : w8.cell? ⟨gb157, 1, none⟩ = some (.slice none 0 0) := (blk_cell BK157.out 1).trans rfl; have hcz11_2 : w8.cell? ⟨gb157, 2, none⟩ = some (.int .i64 0) := (blk_cell BK157.out 2).trans rfl; have hfz11_0 := blk_frozen BK157.out 0; have hfz11_1 := blk_frozen BK157.out 1; have hfz11_2 := blk_frozen BK157.out 2; obtain ⟨Ao12, co12, eo12⟩ := Kd.R_slice HO154.out; subst eo12) | ((with_reducible refine gate_callee (f := 52) rfl ?_); refine gl_ (some 14) Try.func52 #[.pointer (some ⟨g, 0, none⟩), .int .i64 9] ?_; (with_reducible refine (spec_l1Below.calls g s0_0 t149 t150 9 t158 t159 t160 w0 _ ?side1 ?side2 A4.out).mono ?_); (case side1 => repeat (first | (with_reducible first | exact HI0.out | apply IsS118.alloc | apply IsS118.drewN | apply IsS118.drew | apply IsS118.set_1 | apply IsS118.set_2 | refine IsS118.far ?_ NB0_147.out _ | refine IsS118.far ?_ NB0_157.out _) | exact HI0.out)); (case side2 => repeat (first | (with_reducible first | exact HB.out | apply b1 | apply b2 | apply b3 | refine below_set ?_ (IsS118.ge HI0.out) | refine below_set ?_ GE147.out | refine below_set ?_ GE157.out) | exact HB.out)); rintro e w13 ⟨rfl, hi, hb, hk⟩; refine ⟨_, rfl, ?_⟩; replace BK147 := am (KeepBut.blk hk (g' := gb147) (o := .cells #[.int .i64 0, .slice none 0 0, .int .i64 0] 26 (0, 0)) (rf3 NB147_157 BK147) NB147_0.out (by simp)); replace HO154 := am (Kd.R_mono (Kd.R_keep (IsS118.apart (show IsS118 w0 _ g s0_0 t149 t150 from by repeat (first | (with_reducible first | exact HI0.out | apply IsS118.alloc | apply IsS118.drewN | apply IsS118.drew | apply IsS118.set_1 | apply IsS118.set_2 | refine IsS118.far ?_ NB0_147.out _ | refine IsS118.far ?_ NB0_157.out _) | exact HI0.out)) (Rf3 HO154 BK157) (by decide)) hk (fun _ h => h.2)) (fun _ h => h.1)); replace BK157 := am (KeepBut.blk hk (g' := gb157) (o := .cells #[.int .i64 t151, .slice Ao12 t152.length co12, .int .i64 t155] 26 (0, 0)) (rp_0_1_2 BK157) NB157_0.out (by simp)); replace HK := am (KeepBut.trans (by repeat (first | (with_reducible first | exact HK.out | apply KeepBut.set_ | apply keep_drewN | apply keep_drew | apply keep_alloc | refine keep_far ?_ GW147.out _ | refine keep_far ?_ GW157.out _) | exact HK.out)) hk (.inl rfl)); replace HB := am (hb); replace HI0 := am (hi); (try clear hb); (try clear hb2); (try clear hk); (try clear hi)))
go_loopg [5] k (fun kq v5 w' => ∃ (x5_1 : Int) (x1001_1 : Int) (x1002_1 : Int) (x158000_1 : Int) (x158001_1 : List ByteArray) (x158002_1 : Int) (u158001 : Value), v5 = .int .i64 x5_1 ∧ Aside0 (spec_l12Draw.l0 kq x5_1 s0_0 x1001_1 x1002_1 x158000_1 x158001_1 x158002_1 = some (r1, r2, r3, r4, r5)) ∧ Aside0 (kq ≤ k) ∧ Aside0 (Kd.Q Kd.string 9 w' w.heap.size (fun _ => True) u158001 x158001_1) ∧ Aside0 (w'.heap[gb147]? = some (.cells #[.int .i64 0, (.slice none 0 0), .int .i64 0] 26 (0, 0))) ∧ Aside0 (w'.heap[gb157]? = some (.cells #[.int .i64 x158000_1, u158001, .int .i64 x158002_1] 26 (0, 0))) ∧ Aside0 (IsS118 w0 w' g s0_0 x1001_1 x1002_1) ∧ Aside0 (KeepBut w w' g none) ∧ Aside0 (Below w0.heap.size w0 w'))
case atStart => exact ⟨(t158), (t159), (t160), (t151), (t152), (t155), (.slice Ao12 t152.length co12), (by first | rfl | (simp; done) | (simp [*]; done)), H', ⟨Nat.le_refl _⟩, ⟨Kd.Q_of_R (rr HO154)⟩, ⟨rk BK147⟩, ⟨rk BK157⟩, ⟨by repeat (first | (with_reducible first | exact HI0.out | apply IsS118.alloc | apply IsS118.drewN | apply IsS118.drew | apply IsS118.set_1 | apply IsS118.set_2 | refine IsS118.far ?_ NB0_147.out _ | refine IsS118.far ?_ NB0_157.out _) | exact HI0.out)⟩, ⟨by repeat (first | (with_reducible first | exact HK.out | apply KeepBut.set_ | apply keep_drewN | apply keep_drew | apply keep_alloc | refine keep_far ?_ GW147.out _ | refine keep_far ?_ GW157.out _) | exact HK.out)⟩, ⟨by repeat (first | (with_reducible first | exact HB.out | apply b1 | apply b2 | apply b3 | refine below_set ?_ (IsS118.ge HI0.out) | refine below_set ?_ GE147.out | refine below_set ?_ GE157.out) | exact HB.out)⟩⟩
case round => (
clear H'
try clear c1
try clear c2
try clear p2
try clear c5
try clear p6
try clear c9
try clear c10
try clear hcz11_0
try clear hcz11_1
try clear hcz11_2
try clear hfz11_0
try clear hfz11_1
try clear hfz11_2
obtain ⟨x5_1, x1001_1, x1002_1, x158000_1, x158001_1, x158002_1, u158001, rfl, HA, HK1, HO_158001, BK147, BK157, HI0, HK, HB⟩ := hrel
cases gk with
| zero => exact absurd HA.out (by simp [spec_l12Draw.l0])
| succ k1 => (
have H := HA.out
clear HA
simp only [spec_l12Draw.l0] at H
refine em_ (p := x5_1 > 0) (fun c14 => ?g11p) (fun c14 => ?g11n)
case' g11p => (
rw [if_pos c14] at H
have c14b0 : decide (0 < x5_1) = true := decide_eq_true c14
clear c14
obtain ⟨y161, hy161⟩ : ∃ y_ : List ByteArray, y_ = (([(⟨#[97, 98, 97, 98]⟩ : ByteArray), (⟨#[98, 97]⟩ : ByteArray), (⟨#[]⟩ : ByteArray), (⟨#[120, 97, 98]⟩ : ByteArray), (⟨#[97, 97, 98]⟩ : ByteArray)] : List ByteArray)) := ⟨_, rfl⟩
replace H : ((spec_l1Below.f s0_0 x1001_1 x1002_1 5).bind fun bt164 => (if 0 ≤ bt164.1 then (if bt164.1 < (y161.length : Int) then ((spec_Keep.f k1 x158000_1 x158001_1 x158002_1 (rdOf ByteArray.empty y161 bt164.1)).bind fun bt168 => (spec_l12Draw.l0 k1 (wrap64 (x5_1 - 1)) s0_0 bt164.2.1 bt164.2.2 bt168.1 bt168.2.1 bt168.2.2.1)) else (none)) else (none))) = some (r1, r2, r3, r4, r5) := by first | (rw [hy161]; with_reducible exact H) | (rw [hy161]; exact H) | exact H
have Ny161 := am hy161
clear hy161
replace H := Option.bind_eq_some_iff.mp H
obtain ⟨⟨t164, t165, t166⟩, A150, H⟩ := H
(try dsimp only at H)
have A15 := am A150
clear A150
refine em_ (p := 0 ≤ t164) (fun c16 => ?g1p) (fun c16 => ?g1n)
case' g1p => (
rw [if_pos c16] at H
have c16b0 : decide (0 ≤ t164) = true := decide_eq_true c16
clear c16
refine em_ (p := t164 < (y161.length : Int)) (fun c17 => ?g0p) (fun c17 => ?g0n)
case' g0p => (
rw [if_pos c17] at H
have c17b0 : decide (t164 < (y161.length : Int)) = true := decide_eq_true c17
clear c17
replace H := Option.bind_eq_some_iff.mp H
obtain ⟨⟨t168, t169, t172, t173⟩, A180, H⟩ := H
(try dsimp only at H)
have A18 := am A180
clear A180
have H' := am H
clear H
obtain ⟨Ao19, co19, eo19, _⟩ := Kd.Q_slice HO_158001.out
subst eo19
have lf1_ := trivial
)
case g0n => (
rw [if_neg c17] at H
exact absurd H (by simp)
)
)
case g1n => (
rw [if_neg c16] at H
exact absurd H (by simp)
)
)
case g11n => (
rw [if_neg c14] at H
have c14b0 : decide (0 < x5_1) = false := decide_eq_false c14
clear c14
replace H := Option.bind_eq_some_iff.mp H
obtain ⟨⟨t174, t175, t176⟩, A320, H⟩ := H
(try dsimp only at H)
have A32 := am A320
clear A320
refine em_ (p := t174 = true) (fun c33 => ?g12p) (fun c33 => ?g12n)
case g12p => (
subst c33
rw [if_pos rfl] at H
replace H := Option.bind_eq_some_iff.mp H
obtain ⟨⟨t177, t178, t179⟩, A340, H⟩ := H
(try dsimp only at H)
have A34 := am A340
clear A340
refine em_ (p := t177 = 0) (fun c35 => ?g10p) (fun c35 => ?g10n)
case' g10p => (
rw [if_pos c35] at H
have c35b0 : (t177 == 0) = true := beq_iff_eq.mpr c35
have c35b1 : (t177 != 0) = false := bne_eq_false_iff_eq.mpr c35
clear c35
obtain ⟨y180, hy180⟩ : ∃ y_ : List Int, y_ = (([0, 1, 200, 201] : List Int)) := ⟨_, rfl⟩
replace H : ((spec_l1Below.f s0_0 t178 t179 4).bind fun bt183 => (if 0 ≤ bt183.1 then (if bt183.1 < (y180.length : Int) then (some (rd y180 bt183.1, x158001_1, x158002_1, bt183.2.1, bt183.2.2)) else (none)) else (none))) = some (r1, r2, r3, r4, r5) := by first | (rw [hy180]; with_reducible exact H) | (rw [hy180]; exact H) | exact H
have Ny180 := am hy180
clear hy180
replace H := Option.bind_eq_some_iff.mp H
obtain ⟨⟨t183, t184, t185⟩, A360, H⟩ := H
(try dsimp only at H)
have A36 := am A360
clear A360
refine em_ (p := 0 ≤ t183) (fun c37 => ?g3p) (fun c37 => ?g3n)
case' g3p => (
rw [if_pos c37] at H
have c37b0 : decide (0 ≤ t183) = true := decide_eq_true c37
clear c37
refine em_ (p := t183 < (y180.length : Int)) (fun c38 => ?g2p) (fun c38 => ?g2n)
case' g2p => (
rw [if_pos c38] at H
have c38b0 : decide (t183 < (y180.length : Int)) = true := decide_eq_true c38
clear c38
simp only [Option.some.injEq, Prod.mk.injEq] at H
obtain ⟨rfl, rfl, rfl, rfl, rfl⟩ := H
have lf2_ := trivial
)
case g2n => (
rw [if_neg c38] at H
exact absurd H (by simp)
)
)
case g3n => (
rw [if_neg c37] at H
exact absurd H (by simp)
)
)
case' g10n => (
rw [if_neg c35] at H
have c35b0 : (t177 == 0) = false := beq_eq_false_iff_ne.mpr c35
have c35b1 : (t177 != 0) = true := bne_iff_ne.mpr c35
refine em_ (p := t177 = 1) (fun c51 => ?g9p) (fun c51 => ?g9n)
case' g9p => (
rw [if_pos c51] at H
have c51b0 : (t177 == 1) = true := beq_iff_eq.mpr c51
have c51b1 : (t177 != 1) = false := bne_eq_false_iff_eq.mpr c51
clear c51
obtain ⟨y187, hy187⟩ : ∃ y_ : List Int, y_ = (([(-1), 1000000, 1000001, 999999] : List Int)) := ⟨_, rfl⟩
replace H : ((spec_l1Below.f s0_0 t178 t179 4).bind fun bt190 => (if 0 ≤ bt190.1 then (if bt190.1 < (y187.length : Int) then (some (x158000_1, x158001_1, rd y187 bt190.1, bt190.2.1, bt190.2.2)) else (none)) else (none))) = some (r1, r2, r3, r4, r5) := by first | (rw [hy187]; with_reducible exact H) | (rw [hy187]; exact H) | exact H
have Ny187 := am hy187
clear hy187
replace H := Option.bind_eq_some_iff.mp H
obtain ⟨⟨t190, t191, t192⟩, A520, H⟩ := H
(try dsimp only at H)
have A52 := am A520
clear A520
refine em_ (p := 0 ≤ t190) (fun c53 => ?g5p) (fun c53 => ?g5n)
case' g5p => (
rw [if_pos c53] at H
have c53b0 : decide (0 ≤ t190) = true := decide_eq_true c53
clear c53
refine em_ (p := t190 < (y187.length : Int)) (fun c54 => ?g4p) (fun c54 => ?g4n)
case' g4p => (
rw [if_pos c54] at H
have c54b0 : decide (t190 < (y187.length : Int)) = true := decide_eq_true c54
clear c54
simp only [Option.some.injEq, Prod.mk.injEq] at H
obtain ⟨rfl, rfl, rfl, rfl, rfl⟩ := H
have lf3_ := trivial
)
case g4n => (
rw [if_neg c54] at H
exact absurd H (by simp)
)
)
case g5n => (
rw [if_neg c53] at H
exact absurd H (by simp)
)
)
case g9n => (
rw [if_neg c51] at H
have c51b0 : (t177 == 1) = false := beq_eq_false_iff_ne.mpr c51
have c51b1 : (t177 != 1) = true := bne_iff_ne.mpr c51
refine em_ (p := t177 = 2) (fun c67 => ?g13p) (fun c67 => ?g13n)
case g13p => (
rw [if_pos c67] at H
have c67b0 : (t177 == 2) = true := beq_iff_eq.mpr c67
have c67b1 : (t177 != 2) = false := bne_eq_false_iff_eq.mpr c67
clear c67
replace H := Option.bind_eq_some_iff.mp H
obtain ⟨⟨t194, t195, t196⟩, A680, H⟩ := H
(try dsimp only at H)
have A68 := am A680
clear A680
obtain ⟨ji69, hji69⟩ : ∃ j_ : Int, (wrap64 (300 + t194)) = j_ := ⟨_, rfl⟩
replace H : (if 0 ≤ (ji69) then (if (ji69 : Int).toNat ≤ 281474976710656 then (if x158001_1.length < 8796093022208 then (some (x158000_1, (x158001_1 ++ [strOfNums (List.replicate (ji69 : Int).toNat 0)]), x158002_1, t195, t196)) else (none)) else (none)) else (none)) = some (r1, r2, r3, r4, r5) := by first | (rw [hji69] at H; exact H) | (simp only [hji69] at H ⊢; exact H)
(try rw [hji69] at A32)
(try rw [hji69] at A34)
(try rw [hji69] at A68)
have hji69w : (IntKind.i64.wrap (300 + t194)) = ji69 := (i64_w _).trans hji69
refine em_ (p := 0 ≤ (ji69)) (fun c70 => ?g8p) (fun c70 => ?g8n)
case' g8p => (
rw [if_pos c70] at H
have c70b0 := eq_true c70
have c70b1 : decide (0 ≤ (ji69)) = true := decide_eq_true c70
clear c70
refine em_ (p := (ji69 : Int).toNat ≤ 281474976710656) (fun c71 => ?g7p) (fun c71 => ?g7n)
case' g7p => (
rw [if_pos c71] at H
have c71b0 := eq_true c71
have c71b1 : decide ((ji69 : Int).toNat ≤ 281474976710656) = true := decide_eq_true c71
clear c71
obtain ⟨y197, hy197⟩ : ∃ y_ : List Int, y_ = (List.replicate (ji69 : Int).toNat 0) := ⟨_, rfl⟩
replace H : (if x158001_1.length < 8796093022208 then (some (x158000_1, (x158001_1 ++ [strOfNums y197]), x158002_1, t195, t196)) else (none)) = some (r1, r2, r3, r4, r5) := by first | (rw [hy197]; with_reducible exact H) | (rw [hy197]; exact H) | exact H
have Ny197 := am hy197
clear hy197
refine em_ (p := x158001_1.length < 8796093022208) (fun c72 => ?g6p) (fun c72 => ?g6n)
case' g6p => (
rw [if_pos c72] at H
have LMc72 := am c72
clear c72
obtain ⟨y200, hy200⟩ : ∃ y_ : List ByteArray, y_ = (x158001_1 ++ [strOfNums y197]) := ⟨_, rfl⟩
replace H : (some (x158000_1, y200, x158002_1, t195, t196)) = some (r1, r2, r3, r4, r5) := by first | (rw [hy200]; with_reducible exact H) | (rw [hy200]; exact H) | exact H
have Ny200 := am hy200
clear hy200
simp only [Option.some.injEq, Prod.mk.injEq] at H
obtain ⟨rfl, rfl, rfl, rfl, rfl⟩ := H
have lf4_ := trivial
)
case g6n => (
rw [if_neg c72] at H
exact absurd H (by simp)
)
)
case g7n => (
rw [if_neg c71] at H
exact absurd H (by simp)
)
)
case g8n => (
rw [if_neg c70] at H
exact absurd H (by simp)
)
all_goals (
try go_wp2_with (first | ((with_reducible refine gate_callee (f := 51) rfl ?_); refine gl_ (some 30) Try.func51 #[.pointer (some ⟨g, 0, none⟩), .int .i64 12] ?_; (with_reducible refine (spec_l1Once.calls g s0_0 x1001_1 x1002_1 12 true t175 t176 w0 _ ?side1 ?side2 A32.out).mono ?_); (case side1 => repeat (first | (with_reducible first | exact HI0.out | apply IsS118.alloc | apply IsS118.drewN | apply IsS118.drew | apply IsS118.set_1 | apply IsS118.set_2 | refine IsS118.far ?_ NB0_147.out _ | refine IsS118.far ?_ NB0_157.out _) | exact HI0.out)); (case side2 => repeat (first | (with_reducible first | exact HB.out | apply b1 | apply b2 | apply b3 | refine below_set ?_ (IsS118.ge HI0.out) | refine below_set ?_ GE147.out | refine below_set ?_ GE157.out) | exact HB.out)); rintro e w73 ⟨rfl, hi, hb, hk⟩; refine ⟨_, rfl, ?_⟩; replace HO_158001 := am (Kd.Q_mono (Kd.Q_keep (IsS118.apartQ (show IsS118 w0 _ g s0_0 x1001_1 x1002_1 from by repeat (first | (with_reducible first | exact HI0.out | apply IsS118.alloc | apply IsS118.drewN | apply IsS118.drew | apply IsS118.set_1 | apply IsS118.set_2 | refine IsS118.far ?_ NB0_147.out _ | refine IsS118.far ?_ NB0_157.out _) | exact HI0.out)) (rq HO_158001) (by decide)) hk (fun _ h => h.2)) (fun _ h => h.1)); replace BK147 := am (KeepBut.blk hk (g' := gb147) (o := .cells #[.int .i64 0, .slice none 0 0, .int .i64 0] 26 (0, 0)) (rk BK147) NB147_0.out (by simp)); replace BK157 := am (KeepBut.blk hk (g' := gb157) (o := .cells #[.int .i64 x158000_1, u158001, .int .i64 x158002_1] 26 (0, 0)) (rk BK157) NB157_0.out (by simp)); replace HK := am (KeepBut.trans (by repeat (first | (with_reducible first | exact HK.out | apply KeepBut.set_ | apply keep_drewN | apply keep_drew | apply keep_alloc | refine keep_far ?_ GW147.out _ | refine keep_far ?_ GW157.out _) | exact HK.out)) hk (.inl rfl)); replace HB := am (hb); replace HI0 := am (hi); (try clear hb); (try clear hb2); (try clear hk); (try clear hi)) | ((with_reducible refine gate_callee (f := 52) rfl ?_); refine gl_ (some 32) Try.func52 #[.pointer (some ⟨g, 0, none⟩), .int .i64 3] ?_; (with_reducible refine (spec_l1Below.calls g s0_0 t175 t176 3 t177 t178 t179 w0 _ ?side1 ?side2 A34.out).mono ?_); (case side1 => repeat (first | (with_reducible first | exact HI0.out | apply IsS118.alloc | apply IsS118.drewN | apply IsS118.drew | apply IsS118.set_1 | apply IsS118.set_2 | refine IsS118.far ?_ NB0_147.out _ | refine IsS118.far ?_ NB0_157.out _) | exact HI0.out)); (case side2 => repeat (first | (with_reducible first | exact HB.out | apply b1 | apply b2 | apply b3 | refine below_set ?_ (IsS118.ge HI0.out) | refine below_set ?_ GE147.out | refine below_set ?_ GE157.out) | exact HB.out)); rintro e w74 ⟨rfl, hi, hb, hk⟩; refine ⟨_, rfl, ?_⟩; replace HO_158001 := am (Kd.Q_mono (Kd.Q_keep (IsS118.apartQ (show IsS118 w0 _ g s0_0 t175 t176 from by repeat (first | (with_reducible first | exact HI0.out | apply IsS118.alloc | apply IsS118.drewN | apply IsS118.drew | apply IsS118.set_1 | apply IsS118.set_2 | refine IsS118.far ?_ NB0_147.out _ | refine IsS118.far ?_ NB0_157.out _) | exact HI0.out)) (rq HO_158001) (by decide)) hk (fun _ h => h.2)) (fun _ h => h.1)); replace BK147 := am (KeepBut.blk hk (g' := gb147) (o := .cells #[.int .i64 0, .slice none 0 0, .int .i64 0] 26 (0, 0)) (rk BK147) NB147_0.out (by simp)); replace BK157 := am (KeepBut.blk hk (g' := gb157) (o := .cells #[.int .i64 x158000_1, u158001, .int .i64 x158002_1] 26 (0, 0)) (rk BK157) NB157_0.out (by simp)); replace HK := am (KeepBut.trans (by repeat (first | (with_reducible first | exact HK.out | apply KeepBut.set_ | apply keep_drewN | apply keep_drew | apply keep_alloc | refine keep_far ?_ GW147.out _ | refine keep_far ?_ GW157.out _) | exact HK.out)) hk (.inl rfl)); replace HB := am (hb); replace HI0 := am (hi); (try clear hb); (try clear hb2); (try clear hk); (try clear hi)))
replace HO_158001 := am (Kd.Q_drew HO_158001.out)
replace BK147 := am (blk_drew BK147.out)
replace BK157 := am (blk_drew BK157.out)
replace HI0 := am (IsS118.drew HI0.out)
replace HK := am (keep_drew HK.out)
replace HB := am (below_drew1 HB.out)
refine start_ (n := 11) (S := fun w' => w'.cell? ⟨gb157, 0, none⟩ = some (.int .i64 x158000_1) ∧ w'.cell? ⟨gb157, 1, none⟩ = some (u158001) ∧ w'.cell? ⟨gb157, 2, none⟩ = some (.int .i64 x158002_1)) (ds := [10]) (bm 11 0) (by kernel_rfl) rfl rfl (bc3 BK157) (fun hHeld => ?_); refine with_tabW spec_l12Draw.tab13 spec_l12Draw.bits13 (fun HT_ HW_ => ?_)
generalize w74.drew = w75 at HO_158001 BK147 BK157 HI0 HK HB hHeld ⊢
refine pu_ 0 51 (bm 11 1) HT_.out ?_
refine pu_ 2 53 (bm 11 5) HT_.out ?_
refine take_ (i := 1) (N := some 52) (v := ?_) (a' := ?_) (bm 11 7) rfl rfl (take_ofW HT_.out HW_.out (by kernel_rfl)) (fun _ _ _ h => h) (Or.inl ⟨by rfl, ?_⟩) hHeld ?_ ?_
rotate_left
·(
rintro w' ⟨s0, s1, s2⟩
go_simp
with_reducible rfl
)
rotate_left
·(
simp only [Act.put, List.setIfInBounds_toArray, List.set_cons_zero, List.set_cons_succ, i64_w, i32_w]
rfl
)
refine one_ (i := 3) (N := some 54) (bm 11 15) rfl rfl (one_of HT_.out (by kernel_rfl)) (by decide) (fun K hK => ?_)
refine goes_ Try.func52 (by kernel_rfl) rfl #[.pointer (some ⟨g, 0, none⟩), .int .i64 2] (by rfl) rfl rfl mt ?_
with_reducible refine (spec_l1Below.calls g s0_0 t178 t179 2 t194 t195 t196 w0 _ ?side1 ?side2 A68.out).mono ?_
(case side1 => repeat (first | (with_reducible first | exact HI0.out | apply IsS118.alloc | apply IsS118.drewN | apply IsS118.drew | apply IsS118.set_1 | apply IsS118.set_2 | refine IsS118.far ?_ NB0_147.out _ | refine IsS118.far ?_ NB0_157.out _) | exact HI0.out))
(case side2 => repeat (first | (with_reducible first | exact HB.out | apply b1 | apply b2 | apply b3 | refine below_set ?_ (IsS118.ge HI0.out) | refine below_set ?_ GE147.out | refine below_set ?_ GE157.out) | exact HB.out))
rintro e w76 ⟨rfl, hi, hb, hk⟩
refine ⟨_, rfl, ?_⟩
replace HO_158001 := am (Kd.Q_mono (Kd.Q_keep (IsS118.apartQ (show IsS118 w0 _ g s0_0 t178 t179 from by repeat (first | (with_reducible first | exact HI0.out | apply IsS118.alloc | apply IsS118.drewN | apply IsS118.drew | apply IsS118.set_1 | apply IsS118.set_2 | refine IsS118.far ?_ NB0_147.out _ | refine IsS118.far ?_ NB0_157.out _) | exact HI0.out)) (rq HO_158001) (by decide)) hk (fun _ h => h.2)) (fun _ h => h.1))
replace BK147 := am (KeepBut.blk hk (g' := gb147) (o := .cells #[.int .i64 0, .slice none 0 0, .int .i64 0] 26 (0, 0)) (rk BK147) NB147_0.out (by simp))
replace BK157 := am (KeepBut.blk hk (g' := gb157) (o := .cells #[.int .i64 x158000_1, u158001, .int .i64 x158002_1] 26 (0, 0)) (rk BK157) NB157_0.out (by simp))
replace HK := am (KeepBut.trans (by repeat (first | (with_reducible first | exact HK.out | apply KeepBut.set_ | apply keep_drewN | apply keep_drew | apply keep_alloc | refine keep_far ?_ GW147.out _ | refine keep_far ?_ GW157.out _) | exact HK.out)) hk (.inl rfl))
replace HB := am (hb)
replace HI0 := am (hi)
(try clear hb)
(try clear hk)
(try clear hi)
refine hK.out _ _ (bc3 BK157) (fun hHeld => ?_)
clear hK K
refine norm_ (a' := _) (show Act.put _ (some 54) _ = _ from na) ?_
refine pu_ 4 55 (bm 11 31) HT_.out ?_
refine one_ (i := 5) (N := some 56) (bm 11 63) rfl rfl (one_of HT_.out (by kernel_rfl)) (by decide) (fun K hK => ?_)
refine Kd.R_make_step (Kd.int .u8) _ 5 (by rfl) (N := 56) rfl 22 _ _ rfl ji69 rfl rfl Try.underlying22 (.int .u8 0) 1 info5 rfl (by decide) (by omega) 0 (ok := fun _ => True) (okp := fun _ => True) rfl (fun _ hk => hk) trivial dt_ (Nat.le_trans (Nat.mul_le_mul_right _ (dt_ : ji69.toNat ≤ 281474976710656)) (by omega)) (Below.refl _ _) (Nat.le_refl _) ?_
intro v198 w77 ho78 hb hg_ hnew_
clear hg_ hnew_
(first | rw [← Ny197.out] at ho78 | (simp only [Int.reduceToNat] at ho78; rw [← Ny197.out] at ho78))
replace HO_158001 := am (Kd.Q_below (rq HO_158001) hb)
have HO199 := am (Kd.R_lower ho78 (keep_size (w := w) (g := g) (row := none) (by repeat (first | (with_reducible first | exact HK.out | apply KeepBut.set_ | apply keep_drewN | apply keep_drew | apply keep_alloc | refine keep_far ?_ GW147.out _ | refine keep_far ?_ GW157.out _) | exact HK.out))))
replace BK147 := am (blk_below (rk BK147) hb)
replace BK157 := am (blk_below (rk BK157) hb)
replace HK := am (KeepBut.trans (by repeat (first | (with_reducible first | exact HK.out | apply KeepBut.set_ | apply keep_drewN | apply keep_drew | apply keep_alloc | refine keep_far ?_ GW147.out _ | refine keep_far ?_ GW157.out _) | exact HK.out)) (KeepBut.of_below hb g none) (.inl rfl))
replace HB := am (below_step (by repeat (first | (with_reducible first | exact HB.out | apply b1 | apply b2 | apply b3 | refine below_set ?_ (IsS118.ge HI0.out) | refine below_set ?_ GE147.out | refine below_set ?_ GE157.out) | exact HB.out)) hb)
replace HI0 := am (IsS118.below (by repeat (first | (with_reducible first | exact HI0.out | apply IsS118.alloc | apply IsS118.drewN | apply IsS118.drew | apply IsS118.set_1 | apply IsS118.set_2 | refine IsS118.far ?_ NB0_147.out _ | refine IsS118.far ?_ NB0_157.out _) | exact HI0.out)) hb)
clear hb ho78
refine hK.out _ _ (bc3 BK157) (fun hHeld => ?_)
clear hK K
refine norm_ (a' := _) (show Act.put _ (some 56) _ = _ from na) ?_
refine one_ (i := 6) (N := some 57) (bm 11 127) rfl rfl (one_of HT_.out (by kernel_rfl)) (by decide) (fun K hK => ?_)
have hcv79 := own_string (P := Try.prog) Try.underlying22 Try.underlying5 Try.underlying9 (Kd.own_of_R HO199.out)
refine value_ (w1 := ?_) (v := ?_) (by rfl) rfl ?_ ?_
rotate_left 2
·(
go_simp
constructor
·rfl
·rfl
)
clear hcv79
refine hK.out _ _ (bc3 BK157) (fun hHeld => ?_)
clear hK K
refine norm_ (a' := _) (show Act.put _ (some 57) _ = _ from na) ?_
refine one_ (i := 7) (N := some 58) (bm 11 255) rfl rfl (one_of HT_.out (by kernel_rfl)) (by decide) (fun K hK => ?_)
refine value_ (w1 := ?_) (v := ?_) (by rfl) rfl ?_ ?_
rotate_left 2
·(
go_simp
constructor
·rfl
·rfl
)
refine hK.out _ _ ⟨(blk_cell (blk_alloc BK157.out _) 0).trans rfl, (blk_cell (blk_alloc BK157.out _) 1).trans rfl, (blk_cell (blk_alloc BK157.out _) 2).trans rfl⟩ (fun hHeld => ?_)
clear hK K
refine norm_ (a' := _) (show Act.put _ (some 58) _ = _ from na) ?_
refine one_ (i := 8) (N := some 59) (bm 11 511) rfl rfl (one_of HT_.out (by kernel_rfl)) (by decide) (fun K hK => ?_)
refine Kd.Q_append_step Kd.string w.heap.size (by rfl) (.tmp 52) (.tmp 58) 24 9 (.string ⟨#[]⟩) 16 rfl Try.underlying24 info9 rfl (by decide) (by omega) u158001 x158001_1 (strOfNums y197) [.string (strOfNums y197)] (fun _ => True) (fun _ => False) rfl rfl ?aP (fun _ hk => hk.elim) ?aF ?aO (Below.refl _ _) ?aS ?aL ?_
(case aP => exact rfl)
(case aF => exact (fun _ _ => trivial))
(case aO => exact (rq HO_158001))
(case aS => exact (keep_size (w := w) (g := g) (row := none) (by repeat (first | (with_reducible first | exact HK.out | apply KeepBut.set_ | apply keep_drewN | apply keep_drew | apply keep_alloc | refine keep_far ?_ GW147.out _ | refine keep_far ?_ GW157.out _) | exact HK.out))))
(case aL => have := LMc72.out; omega)
intro v201 w80 ho hb hg hat
rw [← Ny200.out] at ho
replace BK147 := am (blk_grown (rk BK147) hg (Kd.Q_ne HO_158001.out BK147.out (by decide)))
replace BK157 := am (blk_grown (rk BK157) hg (Kd.Q_ne HO_158001.out BK157.out (by decide)))
replace HO199 := am (Kd.R_over' (rr HO199) (Kd.Q_typed (rq HO_158001)) (by decide) hg)
replace HB := am (below_weaken (by repeat (first | (with_reducible first | exact HB.out | apply b1 | apply b2 | apply b3 | refine below_set ?_ (IsS118.ge HI0.out) | refine below_set ?_ GE147.out | refine below_set ?_ GE157.out) | exact HB.out)) HL.out hb)
replace HI0 := am (IsS118.grown (by repeat (first | (with_reducible first | exact HI0.out | apply IsS118.alloc | apply IsS118.drewN | apply IsS118.drew | apply IsS118.set_1 | apply IsS118.set_2 | refine IsS118.far ?_ NB0_147.out _ | refine IsS118.far ?_ NB0_157.out _) | exact HI0.out)) hg (IsS118.own_neQ HI0.out HO_158001.out (by decide)))
replace HK := am (KeepBut.trans (by repeat (first | (with_reducible first | exact HK.out | apply KeepBut.set_ | apply keep_drewN | apply keep_drew | apply keep_alloc | refine keep_far ?_ GW147.out _ | refine keep_far ?_ GW157.out _) | exact HK.out)) (KeepBut.of_grown hg g) (Kd.Q_base2 HO_158001.out))
have HO202 := am (ho)
clear HO_158001
clear ho hb hg hat
obtain ⟨Ao81, co81, eo81, _⟩ := Kd.Q_slice HO202.out
(first | subst eo81 | (injection eo81 with f1_ f2_ f3_; have f4_ := f1_.symm; have f5_ := f3_.symm; clear f1_ f2_ f3_; subst f4_; subst f5_))
refine hK.out _ _ (bc3 BK157) (fun hHeld => ?_)
clear hK K
refine norm_ (a' := _) (show Act.put _ (some 59) _ = _ from na) ?_
refine pu_ 9 60 (bm 11 1023) HT_.out ?_
refine last_ (i := 10) (N := none) (bm 11 2047) rfl rfl (one_of HT_.out (by kernel_rfl)) (by decide) (fun K hK => ?_)
have hs82 : w80.cell? ⟨gb157, 1, none⟩ = some (u158001) := (blk_cell BK157.out 1).trans rfl
have hfs82 := blk_frozen BK157.out 1
have hns82_0 := NB147_157.out
have hms82_0 := NB157_147.out
refine skip_ (w1 := ?_) (by rfl) rfl ?_ ?_
rotate_left
·(
go_simp
rfl
)
refine hK.out _ _ ?_
clear hK K
refine done_ (done_of HT_.out (by kernel_rfl)) ?_
have hnb83 := NB157_147.out
have hnc83 := NB147_157.out
have hnb84 := NB157_0.out
have hnc84 := NB0_157.out
have hcz85_0 : w80.cell? ⟨gb157, 0, none⟩ = some (.int .i64 x158000_1) := (blk_cell BK157.out 0).trans rfl
have hcz85_1 : w80.cell? ⟨gb157, 1, none⟩ = some (u158001) := (blk_cell BK157.out 1).trans rfl
have hcz85_2 : w80.cell? ⟨gb157, 2, none⟩ = some (.int .i64 x158002_1) := (blk_cell BK157.out 2).trans rfl
have hfz85_0 := blk_frozen BK157.out 0
have hfz85_1 := blk_frozen BK157.out 1
have hfz85_2 := blk_frozen BK157.out 2
have hnb86 := NB147_0.out
have hnc86 := NB0_147.out
have hcz87_0 : w80.cell? ⟨gb147, 0, none⟩ = some (.int .i64 0) := (blk_cell BK147.out 0).trans rfl
have hcz87_1 : w80.cell? ⟨gb147, 1, none⟩ = some (.slice none 0 0) := (blk_cell BK147.out 1).trans rfl
have hcz87_2 : w80.cell? ⟨gb147, 2, none⟩ = some (.int .i64 0) := (blk_cell BK147.out 2).trans rfl
have hfz87_0 := blk_frozen BK147.out 0
have hfz87_1 := blk_frozen BK147.out 1
have hfz87_2 := blk_frozen BK147.out 2
try go_wp2
refine bodyPost_ret (results_cell_row rfl _ _ gb147 26 #[.int .i64 x158000_1, .slice Ao81 y200.length co81, .int .i64 x158002_1] (0, 0) _ rfl (by (with_reducible repeat (first | apply k1 | apply k2 | apply k3)); refine blk_put (cs := #[.int .i64 x158000_1, .slice Ao81 y200.length co81, .int .i64 0]) ?_ 2 _ rfl; (with_reducible repeat (first | apply k1 | apply k2 | apply k3)); refine blk_put (cs := #[.int .i64 x158000_1, .slice none 0 0, .int .i64 0]) ?_ 1 _ rfl; (with_reducible repeat (first | apply k1 | apply k2 | apply k3)); refine blk_put (cs := #[.int .i64 0, .slice none 0 0, .int .i64 0]) ?_ 0 _ rfl; (with_reducible repeat (first | apply k1 | apply k2 | apply k3)); refine blk_far ?_ NB147_157.out _; (with_reducible repeat (first | apply k1 | apply k2 | apply k3)); exact BK147.out) Try.underlying26 rfl (by kernel_rfl)) rfl ?_
exact ⟨_, by first | rfl | (simp [errW_none, errW_some] <;> rfl) | (simp only [← hji69]; first | rfl | (simp [errW_none, errW_some] <;> rfl)) | (simp [*, errW_none, errW_some] <;> rfl), by (with_reducible repeat (first | apply Kd.Q_alloc | apply Kd.Q_drewN | apply Kd.Q_drew)); exact Kd.Q_mono (Kd.Q_far (p := ⟨gb147, 2, none⟩) (Kd.Q_far (p := ⟨gb147, 1, none⟩) (Kd.Q_far (p := ⟨gb147, 0, none⟩) (Kd.Q_far (p := ⟨gb157, 1, none⟩) (Kd.Q_types (Kd.Q_types HO202.out BK157.out (by decide)) BK147.out (by decide)) (fun _ hk => hk.1.2) (.slice Ao81 y200.length co81)) (fun _ hk => hk.2) (.int .i64 x158000_1)) (fun _ hk => hk.2) (.slice Ao81 y200.length co81)) (fun _ hk => hk.2) (.int .i64 x158002_1)) (fun _ hk => trivial), by repeat (first | (with_reducible first | exact HI0.out | apply IsS118.alloc | apply IsS118.drewN | apply IsS118.drew | apply IsS118.set_1 | apply IsS118.set_2 | refine IsS118.far ?_ NB0_147.out _ | refine IsS118.far ?_ NB0_157.out _) | exact HI0.out), by repeat (first | (with_reducible first | exact HB.out | apply b1 | apply b2 | apply b3 | refine below_set ?_ (IsS118.ge HI0.out) | refine below_set ?_ GE147.out | refine below_set ?_ GE157.out) | exact HB.out), by repeat (first | (with_reducible first | exact HK.out | apply KeepBut.set_ | apply keep_drewN | apply keep_drew | apply keep_alloc | refine keep_far ?_ GW147.out _ | refine keep_far ?_ GW157.out _) | exact HK.out)⟩
)
)
case' g13n => (
rw [if_neg c67] at H
have c67b0 : (t177 == 2) = false := beq_eq_false_iff_ne.mpr c67
have c67b1 : (t177 != 2) = true := bne_iff_ne.mpr c67
simp only [Option.some.injEq, Prod.mk.injEq] at H
obtain ⟨rfl, rfl, rfl, rfl, rfl⟩ := H
have lf8_ := trivial
)
all_goals (
go_wp2_with (first | ((with_reducible refine gate_callee (f := 51) rfl ?_); refine gl_ (some 30) Try.func51 #[.pointer (some ⟨g, 0, none⟩), .int .i64 12] ?_; (with_reducible refine (spec_l1Once.calls g s0_0 x1001_1 x1002_1 12 true t175 t176 w0 _ ?side1 ?side2 A32.out).mono ?_); (case side1 => repeat (first | (with_reducible first | exact HI0.out | apply IsS118.alloc | apply IsS118.drewN | apply IsS118.drew | apply IsS118.set_1 | apply IsS118.set_2 | refine IsS118.far ?_ NB0_147.out _ | refine IsS118.far ?_ NB0_157.out _) | exact HI0.out)); (case side2 => repeat (first | (with_reducible first | exact HB.out | apply b1 | apply b2 | apply b3 | refine below_set ?_ (IsS118.ge HI0.out) | refine below_set ?_ GE147.out | refine below_set ?_ GE157.out) | exact HB.out)); rintro e w88 ⟨rfl, hi, hb, hk⟩; refine ⟨_, rfl, ?_⟩; replace HO_158001 := am (Kd.Q_mono (Kd.Q_keep (IsS118.apartQ (show IsS118 w0 _ g s0_0 x1001_1 x1002_1 from by repeat (first | (with_reducible first | exact HI0.out | apply IsS118.alloc | apply IsS118.drewN | apply IsS118.drew | apply IsS118.set_1 | apply IsS118.set_2 | refine IsS118.far ?_ NB0_147.out _ | refine IsS118.far ?_ NB0_157.out _) | exact HI0.out)) (rq HO_158001) (by decide)) hk (fun _ h => h.2)) (fun _ h => h.1)); replace BK147 := am (KeepBut.blk hk (g' := gb147) (o := .cells #[.int .i64 0, .slice none 0 0, .int .i64 0] 26 (0, 0)) (rk BK147) NB147_0.out (by simp)); replace BK157 := am (KeepBut.blk hk (g' := gb157) (o := .cells #[.int .i64 x158000_1, u158001, .int .i64 x158002_1] 26 (0, 0)) (rk BK157) NB157_0.out (by simp)); replace HK := am (KeepBut.trans (by repeat (first | (with_reducible first | exact HK.out | apply KeepBut.set_ | apply keep_drewN | apply keep_drew | apply keep_alloc | refine keep_far ?_ GW147.out _ | refine keep_far ?_ GW157.out _) | exact HK.out)) hk (.inl rfl)); replace HB := am (hb); replace HI0 := am (hi); (try clear hb); (try clear hb2); (try clear hk); (try clear hi)) | ((with_reducible refine gate_callee (f := 52) rfl ?_); refine gl_ (some 32) Try.func52 #[.pointer (some ⟨g, 0, none⟩), .int .i64 3] ?_; (with_reducible refine (spec_l1Below.calls g s0_0 t175 t176 3 t177 t178 t179 w0 _ ?side1 ?side2 A34.out).mono ?_); (case side1 => repeat (first | (with_reducible first | exact HI0.out | apply IsS118.alloc | apply IsS118.drewN | apply IsS118.drew | apply IsS118.set_1 | apply IsS118.set_2 | refine IsS118.far ?_ NB0_147.out _ | refine IsS118.far ?_ NB0_157.out _) | exact HI0.out)); (case side2 => repeat (first | (with_reducible first | exact HB.out | apply b1 | apply b2 | apply b3 | refine below_set ?_ (IsS118.ge HI0.out) | refine below_set ?_ GE147.out | refine below_set ?_ GE157.out) | exact HB.out)); rintro e w89 ⟨rfl, hi, hb, hk⟩; refine ⟨_, rfl, ?_⟩; replace HO_158001 := am (Kd.Q_mono (Kd.Q_keep (IsS118.apartQ (show IsS118 w0 _ g s0_0 t175 t176 from by repeat (first | (with_reducible first | exact HI0.out | apply IsS118.alloc | apply IsS118.drewN | apply IsS118.drew | apply IsS118.set_1 | apply IsS118.set_2 | refine IsS118.far ?_ NB0_147.out _ | refine IsS118.far ?_ NB0_157.out _) | exact HI0.out)) (rq HO_158001) (by decide)) hk (fun _ h => h.2)) (fun _ h => h.1)); replace BK147 := am (KeepBut.blk hk (g' := gb147) (o := .cells #[.int .i64 0, .slice none 0 0, .int .i64 0] 26 (0, 0)) (rk BK147) NB147_0.out (by simp)); replace BK157 := am (KeepBut.blk hk (g' := gb157) (o := .cells #[.int .i64 x158000_1, u158001, .int .i64 x158002_1] 26 (0, 0)) (rk BK157) NB157_0.out (by simp)); replace HK := am (KeepBut.trans (by repeat (first | (with_reducible first | exact HK.out | apply KeepBut.set_ | apply keep_drewN | apply keep_drew | apply keep_alloc | refine keep_far ?_ GW147.out _ | refine keep_far ?_ GW157.out _) | exact HK.out)) hk (.inl rfl)); replace HB := am (hb); replace HI0 := am (hi); (try clear hb); (try clear hb2); (try clear hk); (try clear hi); have hnb90 := NB157_147.out; have hnc90 := NB147_157.out; have hnb91 := NB157_0.out; have hnc91 := NB0_157.out; have hcz92_0 : w89.cell? ⟨gb157, 0, none⟩ = some (.int .i64 x158000_1) := (blk_cell BK157.out 0).trans rfl; have hcz92_1 : w89.cell? ⟨gb157, 1, none⟩ = some (u158001) := (blk_cell BK157.out 1).trans rfl; have hcz92_2 : w89.cell? ⟨gb157, 2, none⟩ = some (.int .i64 x158002_1) := (blk_cell BK157.out 2).trans rfl; have hfz92_0 := blk_frozen BK157.out 0; have hfz92_1 := blk_frozen BK157.out 1; have hfz92_2 := blk_frozen BK157.out 2; have hnb93 := NB147_0.out; have hnc93 := NB0_147.out; have hcz94_0 : w89.cell? ⟨gb147, 0, none⟩ = some (.int .i64 0) := (blk_cell BK147.out 0).trans rfl; have hcz94_1 : w89.cell? ⟨gb147, 1, none⟩ = some (.slice none 0 0) := (blk_cell BK147.out 1).trans rfl; have hcz94_2 : w89.cell? ⟨gb147, 2, none⟩ = some (.int .i64 0) := (blk_cell BK147.out 2).trans rfl; have hfz94_0 := blk_frozen BK147.out 0; have hfz94_1 := blk_frozen BK147.out 1; have hfz94_2 := blk_frozen BK147.out 2; obtain ⟨Ao95, co95, eo95, _⟩ := Kd.Q_slice HO_158001.out; subst eo95))
refine bodyPost_ret (results_cell_row rfl _ _ gb147 26 #[.int .i64 x158000_1, .slice Ao95 x158001_1.length co95, .int .i64 x158002_1] (0, 0) _ rfl (rp_0_1_2 BK147) Try.underlying26 rfl (by kernel_rfl)) rfl ?_
exact ⟨_, by first | rfl | (simp [errW_none, errW_some] <;> rfl) | (simp [*, errW_none, errW_some] <;> rfl), by (with_reducible repeat (first | apply Kd.Q_alloc | apply Kd.Q_drewN | apply Kd.Q_drew)); exact Kd.Q_mono (Kd.Q_far (p := ⟨gb147, 2, none⟩) (Kd.Q_far (p := ⟨gb147, 1, none⟩) (Kd.Q_far (p := ⟨gb147, 0, none⟩) (Kd.Q_types HO_158001.out BK147.out (by decide)) (fun _ hk => hk.2) (.int .i64 x158000_1)) (fun _ hk => hk.2) (.slice Ao95 x158001_1.length co95)) (fun _ hk => hk.2) (.int .i64 x158002_1)) (fun _ hk => trivial), by repeat (first | (with_reducible first | exact HI0.out | apply IsS118.alloc | apply IsS118.drewN | apply IsS118.drew | apply IsS118.set_1 | apply IsS118.set_2 | refine IsS118.far ?_ NB0_147.out _ | refine IsS118.far ?_ NB0_157.out _) | exact HI0.out), by repeat (first | (with_reducible first | exact HB.out | apply b1 | apply b2 | apply b3 | refine below_set ?_ (IsS118.ge HI0.out) | refine below_set ?_ GE147.out | refine below_set ?_ GE157.out) | exact HB.out), by repeat (first | (with_reducible first | exact HK.out | apply KeepBut.set_ | apply keep_drewN | apply keep_drew | apply keep_alloc | refine keep_far ?_ GW147.out _ | refine keep_far ?_ GW157.out _) | exact HK.out)⟩
)
)
)
all_goals (
go_wp2_with (first | ((with_reducible refine gate_callee (f := 52) rfl ?_); refine gl_ (some 37) Try.func52 #[.pointer (some ⟨g, 0, none⟩), .int .i64 4] ?_; (with_reducible refine (spec_l1Below.calls g s0_0 t178 t179 4 t183 t184 t185 w0 _ ?side1 ?side2 A36.out).mono ?_); (case side1 => repeat (first | (with_reducible first | exact HI0.out | apply IsS118.alloc | apply IsS118.drewN | apply IsS118.drew | apply IsS118.set_1 | apply IsS118.set_2 | refine IsS118.far ?_ NB0_147.out _ | refine IsS118.far ?_ NB0_157.out _) | exact HI0.out)); (case side2 => repeat (first | (with_reducible first | exact HB.out | apply b1 | apply b2 | apply b3 | refine below_set ?_ (IsS118.ge HI0.out) | refine below_set ?_ GE147.out | refine below_set ?_ GE157.out) | exact HB.out)); rintro e w43 ⟨rfl, hi, hb, hk⟩; refine ⟨_, rfl, ?_⟩; replace HO_158001 := am (Kd.Q_mono (Kd.Q_keep (IsS118.apartQ (show IsS118 w0 _ g s0_0 t178 t179 from by repeat (first | (with_reducible first | exact HI0.out | apply IsS118.alloc | apply IsS118.drewN | apply IsS118.drew | apply IsS118.set_1 | apply IsS118.set_2 | refine IsS118.far ?_ NB0_147.out _ | refine IsS118.far ?_ NB0_157.out _) | exact HI0.out)) (rq HO_158001) (by decide)) hk (fun _ h => h.2)) (fun _ h => h.1)); replace BK147 := am (KeepBut.blk hk (g' := gb147) (o := .cells #[.int .i64 0, .slice none 0 0, .int .i64 0] 26 (0, 0)) (rk BK147) NB147_0.out (by simp)); replace BK157 := am (KeepBut.blk hk (g' := gb157) (o := .cells #[.int .i64 x158000_1, u158001, .int .i64 x158002_1] 26 (0, 0)) (rk BK157) NB157_0.out (by simp)); replace HO182 := am (Kd.R_mono (Kd.R_keep (IsS118.apart (show IsS118 w0 _ g s0_0 t178 t179 from by repeat (first | (with_reducible first | exact HI0.out | apply IsS118.alloc | apply IsS118.drewN | apply IsS118.drew | apply IsS118.set_1 | apply IsS118.set_2 | refine IsS118.far ?_ NB0_147.out _ | refine IsS118.far ?_ NB0_157.out _) | exact HI0.out)) (rr HO182) (by decide)) hk (fun _ h => h.2)) (fun _ h => h.1)); replace HK := am (KeepBut.trans (by repeat (first | (with_reducible first | exact HK.out | apply KeepBut.set_ | apply keep_drewN | apply keep_drew | apply keep_alloc | refine keep_far ?_ GW147.out _ | refine keep_far ?_ GW157.out _) | exact HK.out)) hk (.inl rfl)); replace HB := am (hb); replace HI0 := am (hi); (try clear hb); (try clear hb2); (try clear hk); (try clear hi); obtain ⟨Ao44, co44, eo44⟩ := Kd.R_slice HO182.out; subst eo44; have p186 : 0 ≤ (t183 : Int) := dt_; have q186 : t183 < (y180.length : Int) := dt_; obtain ⟨ad186, e186, hx186_0⟩ := Kd.at_int (Kd.R_reads' HO182.out).2.2 t183 p186 q186; cases e186; replace p186 := eq_true p186; replace q186 := eq_true q186; have hnb45 := NB157_147.out; have hnc45 := NB147_157.out; have hnb46 := NB157_0.out; have hnc46 := NB0_157.out; have hcz47_0 : w43.cell? ⟨gb157, 0, none⟩ = some (.int .i64 x158000_1) := (blk_cell BK157.out 0).trans rfl; have hcz47_1 : w43.cell? ⟨gb157, 1, none⟩ = some (u158001) := (blk_cell BK157.out 1).trans rfl; have hcz47_2 : w43.cell? ⟨gb157, 2, none⟩ = some (.int .i64 x158002_1) := (blk_cell BK157.out 2).trans rfl; have hfz47_0 := blk_frozen BK157.out 0; have hfz47_1 := blk_frozen BK157.out 1; have hfz47_2 := blk_frozen BK157.out 2; have hnb48 := NB147_0.out; have hnc48 := NB0_147.out; have hcz49_0 : w43.cell? ⟨gb147, 0, none⟩ = some (.int .i64 0) := (blk_cell BK147.out 0).trans rfl; have hcz49_1 : w43.cell? ⟨gb147, 1, none⟩ = some (.slice none 0 0) := (blk_cell BK147.out 1).trans rfl; have hcz49_2 : w43.cell? ⟨gb147, 2, none⟩ = some (.int .i64 0) := (blk_cell BK147.out 2).trans rfl; have hfz49_0 := blk_frozen BK147.out 0; have hfz49_1 := blk_frozen BK147.out 1; have hfz49_2 := blk_frozen BK147.out 2; obtain ⟨Ao50, co50, eo50, _⟩ := Kd.Q_slice HO_158001.out; subst eo50) | ((with_reducible refine gate_callee (f := 52) rfl ?_); refine gl_ (some 45) Try.func52 #[.pointer (some ⟨g, 0, none⟩), .int .i64 4] ?_; (with_reducible refine (spec_l1Below.calls g s0_0 t178 t179 4 t190 t191 t192 w0 _ ?side1 ?side2 A52.out).mono ?_); (case side1 => repeat (first | (with_reducible first | exact HI0.out | apply IsS118.alloc | apply IsS118.drewN | apply IsS118.drew | apply IsS118.set_1 | apply IsS118.set_2 | refine IsS118.far ?_ NB0_147.out _ | refine IsS118.far ?_ NB0_157.out _) | exact HI0.out)); (case side2 => repeat (first | (with_reducible first | exact HB.out | apply b1 | apply b2 | apply b3 | refine below_set ?_ (IsS118.ge HI0.out) | refine below_set ?_ GE147.out | refine below_set ?_ GE157.out) | exact HB.out)); rintro e w59 ⟨rfl, hi, hb, hk⟩; refine ⟨_, rfl, ?_⟩; replace HO_158001 := am (Kd.Q_mono (Kd.Q_keep (IsS118.apartQ (show IsS118 w0 _ g s0_0 t178 t179 from by repeat (first | (with_reducible first | exact HI0.out | apply IsS118.alloc | apply IsS118.drewN | apply IsS118.drew | apply IsS118.set_1 | apply IsS118.set_2 | refine IsS118.far ?_ NB0_147.out _ | refine IsS118.far ?_ NB0_157.out _) | exact HI0.out)) (rq HO_158001) (by decide)) hk (fun _ h => h.2)) (fun _ h => h.1)); replace BK147 := am (KeepBut.blk hk (g' := gb147) (o := .cells #[.int .i64 0, .slice none 0 0, .int .i64 0] 26 (0, 0)) (rk BK147) NB147_0.out (by simp)); replace BK157 := am (KeepBut.blk hk (g' := gb157) (o := .cells #[.int .i64 x158000_1, u158001, .int .i64 x158002_1] 26 (0, 0)) (rk BK157) NB157_0.out (by simp)); replace HO189 := am (Kd.R_mono (Kd.R_keep (IsS118.apart (show IsS118 w0 _ g s0_0 t178 t179 from by repeat (first | (with_reducible first | exact HI0.out | apply IsS118.alloc | apply IsS118.drewN | apply IsS118.drew | apply IsS118.set_1 | apply IsS118.set_2 | refine IsS118.far ?_ NB0_147.out _ | refine IsS118.far ?_ NB0_157.out _) | exact HI0.out)) (rr HO189) (by decide)) hk (fun _ h => h.2)) (fun _ h => h.1)); replace HK := am (KeepBut.trans (by repeat (first | (with_reducible first | exact HK.out | apply KeepBut.set_ | apply keep_drewN | apply keep_drew | apply keep_alloc | refine keep_far ?_ GW147.out _ | refine keep_far ?_ GW157.out _) | exact HK.out)) hk (.inl rfl)); replace HB := am (hb); replace HI0 := am (hi); (try clear hb); (try clear hb2); (try clear hk); (try clear hi); obtain ⟨Ao60, co60, eo60⟩ := Kd.R_slice HO189.out; subst eo60; have p193 : 0 ≤ (t190 : Int) := dt_; have q193 : t190 < (y187.length : Int) := dt_; obtain ⟨ad193, e193, hx193_0⟩ := Kd.at_int (Kd.R_reads' HO189.out).2.2 t190 p193 q193; cases e193; replace p193 := eq_true p193; replace q193 := eq_true q193; have hnb61 := NB157_147.out; have hnc61 := NB147_157.out; have hnb62 := NB157_0.out; have hnc62 := NB0_157.out; have hcz63_0 : w59.cell? ⟨gb157, 0, none⟩ = some (.int .i64 x158000_1) := (blk_cell BK157.out 0).trans rfl; have hcz63_1 : w59.cell? ⟨gb157, 1, none⟩ = some (u158001) := (blk_cell BK157.out 1).trans rfl; have hcz63_2 : w59.cell? ⟨gb157, 2, none⟩ = some (.int .i64 x158002_1) := (blk_cell BK157.out 2).trans rfl; have hfz63_0 := blk_frozen BK157.out 0; have hfz63_1 := blk_frozen BK157.out 1; have hfz63_2 := blk_frozen BK157.out 2; have hnb64 := NB147_0.out; have hnc64 := NB0_147.out; have hcz65_0 : w59.cell? ⟨gb147, 0, none⟩ = some (.int .i64 0) := (blk_cell BK147.out 0).trans rfl; have hcz65_1 : w59.cell? ⟨gb147, 1, none⟩ = some (.slice none 0 0) := (blk_cell BK147.out 1).trans rfl; have hcz65_2 : w59.cell? ⟨gb147, 2, none⟩ = some (.int .i64 0) := (blk_cell BK147.out 2).trans rfl; have hfz65_0 := blk_frozen BK147.out 0; have hfz65_1 := blk_frozen BK147.out 1; have hfz65_2 := blk_frozen BK147.out 2; obtain ⟨Ao66, co66, eo66, _⟩ := Kd.Q_slice HO_158001.out; subst eo66) | ((with_reducible refine gate_dst (N := 43) rfl ?_); refine Kd.R_lit (Kd.int .i64) _ 2 ?hg (N := 43) ?hd (xs := ([(-1), 1000000, 1000001, 999999] : List Int)) (inner := [.int .i64 (-1), .int .i64 1000000, .int .i64 1000001, .int .i64 999999]) (ok := fun _ => True) (okp := fun _ => True) ?hr ?hp (fun _ hk => hk) trivial (Below.refl _ _) (Nat.le_refl _) (by simp) ?_; (case hd => rfl); (case hg => rfl); (case hr => first | (go_simp; done) | (go_simp; rfl)); (case hp => exact (Reps.one (show Kd.M (Kd.int .i64) _ _ _ (-1) [.int .i64 (-1)] from rfl) (Reps.one (show Kd.M (Kd.int .i64) _ _ _ 1000000 [.int .i64 1000000] from rfl) (Reps.one (show Kd.M (Kd.int .i64) _ _ _ 1000001 [.int .i64 1000001] from rfl) (Reps.one (show Kd.M (Kd.int .i64) _ _ _ 999999 [.int .i64 999999] from rfl) (Reps.none _ _)))))); intro v188 w57 ho58 hb hg_ hnew_; clear hg_ hnew_; (first | rw [← Ny187.out] at ho58 | (simp only [Int.reduceToNat] at ho58; rw [← Ny187.out] at ho58)); replace HO_158001 := am (Kd.Q_below (rq HO_158001) hb); have HO189 := am (Kd.R_lower ho58 (keep_size (w := w) (g := g) (row := none) (by repeat (first | (with_reducible first | exact HK.out | apply KeepBut.set_ | apply keep_drewN | apply keep_drew | apply keep_alloc | refine keep_far ?_ GW147.out _ | refine keep_far ?_ GW157.out _) | exact HK.out)))); replace BK147 := am (blk_below (rk BK147) hb); replace BK157 := am (blk_below (rk BK157) hb); replace HK := am (KeepBut.trans (by repeat (first | (with_reducible first | exact HK.out | apply KeepBut.set_ | apply keep_drewN | apply keep_drew | apply keep_alloc | refine keep_far ?_ GW147.out _ | refine keep_far ?_ GW157.out _) | exact HK.out)) (KeepBut.of_below hb g none) (.inl rfl)); replace HB := am (below_step (by repeat (first | (with_reducible first | exact HB.out | apply b1 | apply b2 | apply b3 | refine below_set ?_ (IsS118.ge HI0.out) | refine below_set ?_ GE147.out | refine below_set ?_ GE157.out) | exact HB.out)) hb); replace HI0 := am (IsS118.below (by repeat (first | (with_reducible first | exact HI0.out | apply IsS118.alloc | apply IsS118.drewN | apply IsS118.drew | apply IsS118.set_1 | apply IsS118.set_2 | refine IsS118.far ?_ NB0_147.out _ | refine IsS118.far ?_ NB0_157.out _) | exact HI0.out)) hb); clear hb ho58) | ((with_reducible refine gate_dst (N := 35) rfl ?_); refine Kd.R_lit (Kd.int .i64) _ 2 ?hg (N := 35) ?hd (xs := ([0, 1, 200, 201] : List Int)) (inner := [.int .i64 0, .int .i64 1, .int .i64 200, .int .i64 201]) (ok := fun _ => True) (okp := fun _ => True) ?hr ?hp (fun _ hk => hk) trivial (Below.refl _ _) (Nat.le_refl _) (by simp) ?_; (case hd => rfl); (case hg => rfl); (case hr => first | (go_simp; done) | (go_simp; rfl)); (case hp => exact (Reps.one (show Kd.M (Kd.int .i64) _ _ _ 0 [.int .i64 0] from rfl) (Reps.one (show Kd.M (Kd.int .i64) _ _ _ 1 [.int .i64 1] from rfl) (Reps.one (show Kd.M (Kd.int .i64) _ _ _ 200 [.int .i64 200] from rfl) (Reps.one (show Kd.M (Kd.int .i64) _ _ _ 201 [.int .i64 201] from rfl) (Reps.none _ _)))))); intro v181 w41 ho42 hb hg_ hnew_; clear hg_ hnew_; (first | rw [← Ny180.out] at ho42 | (simp only [Int.reduceToNat] at ho42; rw [← Ny180.out] at ho42)); replace HO_158001 := am (Kd.Q_below (rq HO_158001) hb); have HO182 := am (Kd.R_lower ho42 (keep_size (w := w) (g := g) (row := none) (by repeat (first | (with_reducible first | exact HK.out | apply KeepBut.set_ | apply keep_drewN | apply keep_drew | apply keep_alloc | refine keep_far ?_ GW147.out _ | refine keep_far ?_ GW157.out _) | exact HK.out)))); replace BK147 := am (blk_below (rk BK147) hb); replace BK157 := am (blk_below (rk BK157) hb); replace HK := am (KeepBut.trans (by repeat (first | (with_reducible first | exact HK.out | apply KeepBut.set_ | apply keep_drewN | apply keep_drew | apply keep_alloc | refine keep_far ?_ GW147.out _ | refine keep_far ?_ GW157.out _) | exact HK.out)) (KeepBut.of_below hb g none) (.inl rfl)); replace HB := am (below_step (by repeat (first | (with_reducible first | exact HB.out | apply b1 | apply b2 | apply b3 | refine below_set ?_ (IsS118.ge HI0.out) | refine below_set ?_ GE147.out | refine below_set ?_ GE157.out) | exact HB.out)) hb); replace HI0 := am (IsS118.below (by repeat (first | (with_reducible first | exact HI0.out | apply IsS118.alloc | apply IsS118.drewN | apply IsS118.drew | apply IsS118.set_1 | apply IsS118.set_2 | refine IsS118.far ?_ NB0_147.out _ | refine IsS118.far ?_ NB0_157.out _) | exact HI0.out)) hb); clear hb ho42) | ((with_reducible refine gate_callee (f := 51) rfl ?_); refine gl_ (some 30) Try.func51 #[.pointer (some ⟨g, 0, none⟩), .int .i64 12] ?_; (with_reducible refine (spec_l1Once.calls g s0_0 x1001_1 x1002_1 12 true t175 t176 w0 _ ?side1 ?side2 A32.out).mono ?_); (case side1 => repeat (first | (with_reducible first | exact HI0.out | apply IsS118.alloc | apply IsS118.drewN | apply IsS118.drew | apply IsS118.set_1 | apply IsS118.set_2 | refine IsS118.far ?_ NB0_147.out _ | refine IsS118.far ?_ NB0_157.out _) | exact HI0.out)); (case side2 => repeat (first | (with_reducible first | exact HB.out | apply b1 | apply b2 | apply b3 | refine below_set ?_ (IsS118.ge HI0.out) | refine below_set ?_ GE147.out | refine below_set ?_ GE157.out) | exact HB.out)); rintro e w39 ⟨rfl, hi, hb, hk⟩; refine ⟨_, rfl, ?_⟩; replace HO_158001 := am (Kd.Q_mono (Kd.Q_keep (IsS118.apartQ (show IsS118 w0 _ g s0_0 x1001_1 x1002_1 from by repeat (first | (with_reducible first | exact HI0.out | apply IsS118.alloc | apply IsS118.drewN | apply IsS118.drew | apply IsS118.set_1 | apply IsS118.set_2 | refine IsS118.far ?_ NB0_147.out _ | refine IsS118.far ?_ NB0_157.out _) | exact HI0.out)) (rq HO_158001) (by decide)) hk (fun _ h => h.2)) (fun _ h => h.1)); replace BK147 := am (KeepBut.blk hk (g' := gb147) (o := .cells #[.int .i64 0, .slice none 0 0, .int .i64 0] 26 (0, 0)) (rk BK147) NB147_0.out (by simp)); replace BK157 := am (KeepBut.blk hk (g' := gb157) (o := .cells #[.int .i64 x158000_1, u158001, .int .i64 x158002_1] 26 (0, 0)) (rk BK157) NB157_0.out (by simp)); replace HK := am (KeepBut.trans (by repeat (first | (with_reducible first | exact HK.out | apply KeepBut.set_ | apply keep_drewN | apply keep_drew | apply keep_alloc | refine keep_far ?_ GW147.out _ | refine keep_far ?_ GW157.out _) | exact HK.out)) hk (.inl rfl)); replace HB := am (hb); replace HI0 := am (hi); (try clear hb); (try clear hb2); (try clear hk); (try clear hi)) | ((with_reducible refine gate_callee (f := 52) rfl ?_); refine gl_ (some 32) Try.func52 #[.pointer (some ⟨g, 0, none⟩), .int .i64 3] ?_; (with_reducible refine (spec_l1Below.calls g s0_0 t175 t176 3 t177 t178 t179 w0 _ ?side1 ?side2 A34.out).mono ?_); (case side1 => repeat (first | (with_reducible first | exact HI0.out | apply IsS118.alloc | apply IsS118.drewN | apply IsS118.drew | apply IsS118.set_1 | apply IsS118.set_2 | refine IsS118.far ?_ NB0_147.out _ | refine IsS118.far ?_ NB0_157.out _) | exact HI0.out)); (case side2 => repeat (first | (with_reducible first | exact HB.out | apply b1 | apply b2 | apply b3 | refine below_set ?_ (IsS118.ge HI0.out) | refine below_set ?_ GE147.out | refine below_set ?_ GE157.out) | exact HB.out)); rintro e w40 ⟨rfl, hi, hb, hk⟩; refine ⟨_, rfl, ?_⟩; replace HO_158001 := am (Kd.Q_mono (Kd.Q_keep (IsS118.apartQ (show IsS118 w0 _ g s0_0 t175 t176 from by repeat (first | (with_reducible first | exact HI0.out | apply IsS118.alloc | apply IsS118.drewN | apply IsS118.drew | apply IsS118.set_1 | apply IsS118.set_2 | refine IsS118.far ?_ NB0_147.out _ | refine IsS118.far ?_ NB0_157.out _) | exact HI0.out)) (rq HO_158001) (by decide)) hk (fun _ h => h.2)) (fun _ h => h.1)); replace BK147 := am (KeepBut.blk hk (g' := gb147) (o := .cells #[.int .i64 0, .slice none 0 0, .int .i64 0] 26 (0, 0)) (rk BK147) NB147_0.out (by simp)); replace BK157 := am (KeepBut.blk hk (g' := gb157) (o := .cells #[.int .i64 x158000_1, u158001, .int .i64 x158002_1] 26 (0, 0)) (rk BK157) NB157_0.out (by simp)); replace HK := am (KeepBut.trans (by repeat (first | (with_reducible first | exact HK.out | apply KeepBut.set_ | apply keep_drewN | apply keep_drew | apply keep_alloc | refine keep_far ?_ GW147.out _ | refine keep_far ?_ GW157.out _) | exact HK.out)) hk (.inl rfl)); replace HB := am (hb); replace HI0 := am (hi); (try clear hb); (try clear hb2); (try clear hk); (try clear hi)))
first
| (
have q_ := lf2_
refine bodyPost_ret (results_cell_row rfl _ _ gb147 26 #[.int .i64 (rd y180 t183), .slice Ao50 x158001_1.length co50, .int .i64 x158002_1] (0, 0) _ rfl (by (with_reducible repeat (first | apply k1 | apply k2 | apply k3)); refine blk_put (cs := #[.int .i64 (rd y180 t183), .slice Ao50 x158001_1.length co50, .int .i64 0]) ?_ 2 _ rfl; (with_reducible repeat (first | apply k1 | apply k2 | apply k3)); refine blk_put (cs := #[.int .i64 (rd y180 t183), .slice none 0 0, .int .i64 0]) ?_ 1 _ rfl; (with_reducible repeat (first | apply k1 | apply k2 | apply k3)); refine blk_put (cs := #[.int .i64 0, .slice none 0 0, .int .i64 0]) ?_ 0 _ rfl; (with_reducible repeat (first | apply k1 | apply k2 | apply k3)); refine blk_far ?_ NB147_157.out _; (with_reducible repeat (first | apply k1 | apply k2 | apply k3)); exact BK147.out) Try.underlying26 rfl (by kernel_rfl)) rfl ?_
exact ⟨_, by first | rfl | (simp [errW_none, errW_some] <;> rfl) | (simp [*, errW_none, errW_some] <;> rfl), by (with_reducible repeat (first | apply Kd.Q_alloc | apply Kd.Q_drewN | apply Kd.Q_drew)); exact Kd.Q_mono (Kd.Q_far (p := ⟨gb147, 2, none⟩) (Kd.Q_far (p := ⟨gb147, 1, none⟩) (Kd.Q_far (p := ⟨gb147, 0, none⟩) (Kd.Q_far (p := ⟨gb157, 0, none⟩) (Kd.Q_types (Kd.Q_types HO_158001.out BK157.out (by decide)) BK147.out (by decide)) (fun _ hk => hk.1.2) (.int .i64 (rd y180 t183))) (fun _ hk => hk.2) (.int .i64 (rd y180 t183))) (fun _ hk => hk.2) (.slice Ao50 x158001_1.length co50)) (fun _ hk => hk.2) (.int .i64 x158002_1)) (fun _ hk => trivial), by repeat (first | (with_reducible first | exact HI0.out | apply IsS118.alloc | apply IsS118.drewN | apply IsS118.drew | apply IsS118.set_1 | apply IsS118.set_2 | refine IsS118.far ?_ NB0_147.out _ | refine IsS118.far ?_ NB0_157.out _) | exact HI0.out), by repeat (first | (with_reducible first | exact HB.out | apply b1 | apply b2 | apply b3 | refine below_set ?_ (IsS118.ge HI0.out) | refine below_set ?_ GE147.out | refine below_set ?_ GE157.out) | exact HB.out), by repeat (first | (with_reducible first | exact HK.out | apply KeepBut.set_ | apply keep_drewN | apply keep_drew | apply keep_alloc | refine keep_far ?_ GW147.out _ | refine keep_far ?_ GW157.out _) | exact HK.out)⟩
)
| (
have q_ := lf3_
refine bodyPost_ret (results_cell_row rfl _ _ gb147 26 #[.int .i64 x158000_1, .slice Ao66 x158001_1.length co66, .int .i64 (rd y187 t190)] (0, 0) _ rfl (by (with_reducible repeat (first | apply k1 | apply k2 | apply k3)); refine blk_put (cs := #[.int .i64 x158000_1, .slice Ao66 x158001_1.length co66, .int .i64 0]) ?_ 2 _ rfl; (with_reducible repeat (first | apply k1 | apply k2 | apply k3)); refine blk_put (cs := #[.int .i64 x158000_1, .slice none 0 0, .int .i64 0]) ?_ 1 _ rfl; (with_reducible repeat (first | apply k1 | apply k2 | apply k3)); refine blk_put (cs := #[.int .i64 0, .slice none 0 0, .int .i64 0]) ?_ 0 _ rfl; (with_reducible repeat (first | apply k1 | apply k2 | apply k3)); refine blk_far ?_ NB147_157.out _; (with_reducible repeat (first | apply k1 | apply k2 | apply k3)); exact BK147.out) Try.underlying26 rfl (by kernel_rfl)) rfl ?_
exact ⟨_, by first | rfl | (simp [errW_none, errW_some] <;> rfl) | (simp [*, errW_none, errW_some] <;> rfl), by (with_reducible repeat (first | apply Kd.Q_alloc | apply Kd.Q_drewN | apply Kd.Q_drew)); exact Kd.Q_mono (Kd.Q_far (p := ⟨gb147, 2, none⟩) (Kd.Q_far (p := ⟨gb147, 1, none⟩) (Kd.Q_far (p := ⟨gb147, 0, none⟩) (Kd.Q_far (p := ⟨gb157, 2, none⟩) (Kd.Q_types (Kd.Q_types HO_158001.out BK157.out (by decide)) BK147.out (by decide)) (fun _ hk => hk.1.2) (.int .i64 (rd y187 t190))) (fun _ hk => hk.2) (.int .i64 x158000_1)) (fun _ hk => hk.2) (.slice Ao66 x158001_1.length co66)) (fun _ hk => hk.2) (.int .i64 (rd y187 t190))) (fun _ hk => trivial), by repeat (first | (with_reducible first | exact HI0.out | apply IsS118.alloc | apply IsS118.drewN | apply IsS118.drew | apply IsS118.set_1 | apply IsS118.set_2 | refine IsS118.far ?_ NB0_147.out _ | refine IsS118.far ?_ NB0_157.out _) | exact HI0.out), by repeat (first | (with_reducible first | exact HB.out | apply b1 | apply b2 | apply b3 | refine below_set ?_ (IsS118.ge HI0.out) | refine below_set ?_ GE147.out | refine below_set ?_ GE157.out) | exact HB.out), by repeat (first | (with_reducible first | exact HK.out | apply KeepBut.set_ | apply keep_drewN | apply keep_drew | apply keep_alloc | refine keep_far ?_ GW147.out _ | refine keep_far ?_ GW157.out _) | exact HK.out)⟩
)
)
)
case' g12n => (
replace c33 := Bool.eq_false_iff.mpr c33
subst c33
rw [if_neg (show ¬ (false = true) by decide)] at H
simp only [Option.some.injEq, Prod.mk.injEq] at H
obtain ⟨rfl, rfl, rfl, rfl, rfl⟩ := H
have lf7_ := trivial
)
all_goals (
go_wp2_with (first | ((with_reducible refine gate_callee (f := 51) rfl ?_); refine gl_ (some 30) Try.func51 #[.pointer (some ⟨g, 0, none⟩), .int .i64 12] ?_; (with_reducible refine (spec_l1Once.calls g s0_0 x1001_1 x1002_1 12 false t175 t176 w0 _ ?side1 ?side2 A32.out).mono ?_); (case side1 => repeat (first | (with_reducible first | exact HI0.out | apply IsS118.alloc | apply IsS118.drewN | apply IsS118.drew | apply IsS118.set_1 | apply IsS118.set_2 | refine IsS118.far ?_ NB0_147.out _ | refine IsS118.far ?_ NB0_157.out _) | exact HI0.out)); (case side2 => repeat (first | (with_reducible first | exact HB.out | apply b1 | apply b2 | apply b3 | refine below_set ?_ (IsS118.ge HI0.out) | refine below_set ?_ GE147.out | refine below_set ?_ GE157.out) | exact HB.out)); rintro e w96 ⟨rfl, hi, hb, hk⟩; refine ⟨_, rfl, ?_⟩; replace HO_158001 := am (Kd.Q_mono (Kd.Q_keep (IsS118.apartQ (show IsS118 w0 _ g s0_0 x1001_1 x1002_1 from by repeat (first | (with_reducible first | exact HI0.out | apply IsS118.alloc | apply IsS118.drewN | apply IsS118.drew | apply IsS118.set_1 | apply IsS118.set_2 | refine IsS118.far ?_ NB0_147.out _ | refine IsS118.far ?_ NB0_157.out _) | exact HI0.out)) (rq HO_158001) (by decide)) hk (fun _ h => h.2)) (fun _ h => h.1)); replace BK147 := am (KeepBut.blk hk (g' := gb147) (o := .cells #[.int .i64 0, .slice none 0 0, .int .i64 0] 26 (0, 0)) (rk BK147) NB147_0.out (by simp)); replace BK157 := am (KeepBut.blk hk (g' := gb157) (o := .cells #[.int .i64 x158000_1, u158001, .int .i64 x158002_1] 26 (0, 0)) (rk BK157) NB157_0.out (by simp)); replace HK := am (KeepBut.trans (by repeat (first | (with_reducible first | exact HK.out | apply KeepBut.set_ | apply keep_drewN | apply keep_drew | apply keep_alloc | refine keep_far ?_ GW147.out _ | refine keep_far ?_ GW157.out _) | exact HK.out)) hk (.inl rfl)); replace HB := am (hb); replace HI0 := am (hi); (try clear hb); (try clear hb2); (try clear hk); (try clear hi); have hnb97 := NB157_147.out; have hnc97 := NB147_157.out; have hnb98 := NB157_0.out; have hnc98 := NB0_157.out; have hcz99_0 : w96.cell? ⟨gb157, 0, none⟩ = some (.int .i64 x158000_1) := (blk_cell BK157.out 0).trans rfl; have hcz99_1 : w96.cell? ⟨gb157, 1, none⟩ = some (u158001) := (blk_cell BK157.out 1).trans rfl; have hcz99_2 : w96.cell? ⟨gb157, 2, none⟩ = some (.int .i64 x158002_1) := (blk_cell BK157.out 2).trans rfl; have hfz99_0 := blk_frozen BK157.out 0; have hfz99_1 := blk_frozen BK157.out 1; have hfz99_2 := blk_frozen BK157.out 2; have hnb100 := NB147_0.out; have hnc100 := NB0_147.out; have hcz101_0 : w96.cell? ⟨gb147, 0, none⟩ = some (.int .i64 0) := (blk_cell BK147.out 0).trans rfl; have hcz101_1 : w96.cell? ⟨gb147, 1, none⟩ = some (.slice none 0 0) := (blk_cell BK147.out 1).trans rfl; have hcz101_2 : w96.cell? ⟨gb147, 2, none⟩ = some (.int .i64 0) := (blk_cell BK147.out 2).trans rfl; have hfz101_0 := blk_frozen BK147.out 0; have hfz101_1 := blk_frozen BK147.out 1; have hfz101_2 := blk_frozen BK147.out 2; obtain ⟨Ao102, co102, eo102, _⟩ := Kd.Q_slice HO_158001.out; subst eo102))
refine bodyPost_ret (results_cell_row rfl _ _ gb147 26 #[.int .i64 x158000_1, .slice Ao102 x158001_1.length co102, .int .i64 x158002_1] (0, 0) _ rfl (rp_0_1_2 BK147) Try.underlying26 rfl (by kernel_rfl)) rfl ?_
exact ⟨_, by first | rfl | (simp [errW_none, errW_some] <;> rfl) | (simp [*, errW_none, errW_some] <;> rfl), by (with_reducible repeat (first | apply Kd.Q_alloc | apply Kd.Q_drewN | apply Kd.Q_drew)); exact Kd.Q_mono (Kd.Q_far (p := ⟨gb147, 2, none⟩) (Kd.Q_far (p := ⟨gb147, 1, none⟩) (Kd.Q_far (p := ⟨gb147, 0, none⟩) (Kd.Q_types HO_158001.out BK147.out (by decide)) (fun _ hk => hk.2) (.int .i64 x158000_1)) (fun _ hk => hk.2) (.slice Ao102 x158001_1.length co102)) (fun _ hk => hk.2) (.int .i64 x158002_1)) (fun _ hk => trivial), by repeat (first | (with_reducible first | exact HI0.out | apply IsS118.alloc | apply IsS118.drewN | apply IsS118.drew | apply IsS118.set_1 | apply IsS118.set_2 | refine IsS118.far ?_ NB0_147.out _ | refine IsS118.far ?_ NB0_157.out _) | exact HI0.out), by repeat (first | (with_reducible first | exact HB.out | apply b1 | apply b2 | apply b3 | refine below_set ?_ (IsS118.ge HI0.out) | refine below_set ?_ GE147.out | refine below_set ?_ GE157.out) | exact HB.out), by repeat (first | (with_reducible first | exact HK.out | apply KeepBut.set_ | apply keep_drewN | apply keep_drew | apply keep_alloc | refine keep_far ?_ GW147.out _ | refine keep_far ?_ GW157.out _) | exact HK.out)⟩
)
)
all_goals (
try go_wp2
have pi167 : (0 ≤ (t164 : Int)) = True := eq_true dt_
have qi167 : (t164 < (y161.length : Int)) = True := eq_true dt_
replace HO_158001 := am (Kd.Q_drew HO_158001.out)
replace BK147 := am (blk_drew BK147.out)
replace BK157 := am (blk_drew BK157.out)
replace HI0 := am (IsS118.drew HI0.out)
replace HK := am (keep_drew HK.out)
replace HB := am (below_drew1 HB.out)
refine start_ (n := 11) (S := fun w' => w'.cell? ⟨gb157, 0, none⟩ = some (.int .i64 x158000_1) ∧ w'.cell? ⟨gb157, 1, none⟩ = some (.slice Ao19 x158001_1.length co19) ∧ w'.cell? ⟨gb157, 2, none⟩ = some (.int .i64 x158002_1)) (ds := [10]) (bm 11 0) (by kernel_rfl) rfl rfl (bc3 BK157) (fun hHeld => ?_); refine with_tabW spec_l12Draw.tab5 spec_l12Draw.bits5 (fun HT_ HW_ => ?_)
generalize wr.drew = w20 at HO_158001 BK147 BK157 HI0 HK HB hHeld ⊢
refine pu_ 2 22 (bm 11 4) HT_.out ?_
refine take_ (i := 0) (N := some 20) (v := ?_) (a' := ?_) (bm 11 5) rfl rfl (take_ofW HT_.out HW_.out (by kernel_rfl)) (fun _ _ _ h => h) (Or.inl ⟨by rfl, ?_⟩) hHeld ?_ ?_
rotate_left
·(
rintro w' ⟨s0, s1, s2⟩
go_simp
with_reducible rfl
)
rotate_left
·(
simp only [Act.put, List.setIfInBounds_toArray, List.set_cons_zero, List.set_cons_succ, i64_w, i32_w]
rfl
)
refine join_ (σ := Value × Addr) 7 (bm 11 15) (fun s_ => [(21, s_.1), (23, .int .i64 t164)]) (fun s_ w' => (w'.cell? ⟨gb157, 0, none⟩ = some (.int .i64 x158000_1) ∧ w'.cell? ⟨gb157, 1, none⟩ = some (.slice Ao19 x158001_1.length co19) ∧ w'.cell? ⟨gb157, 2, none⟩ = some (.int .i64 x158002_1)) ∧ (Kd.R Kd.string 9 w' w.heap.size (fun k_ => some k_ ≠ (.slice Ao19 x158001_1.length co19 : Value).ownBlock) s_.1 y161) ∧ (Kd.Q Kd.string 9 w' w.heap.size (fun k_ => some k_ ≠ (s_.1 : Value).ownBlock) (.slice Ao19 x158001_1.length co19) x158001_1) ∧ (∃ c_, (s_.1 : Value) = .slice (some s_.2) y161.length c_) ∧ (w'.heap[gb147]? = some (.cells #[.int .i64 0, .slice none 0 0, .int .i64 0] 26 (0, 0))) ∧ (w'.heap[gb157]? = some (.cells #[.int .i64 x158000_1, .slice Ao19 x158001_1.length co19, .int .i64 x158002_1] 26 (0, 0))) ∧ (IsS118 w0 w' g s0_0 t165 t166) ∧ (KeepBut w w' g none) ∧ (Below w0.heap.size w0 w')) ?_ ?_
rotate_left
·(
intro hCont
refine two_ (i := 1) (j := 3) (Ni := some 21) (Nj := some 23) (bm 11 7) (bm 11 13) rfl rfl rfl rfl (two_of HT_.out (by kernel_rfl)) (by decide) (by decide) (fun K hK => ?_) (fun K hK => ?_)
·(
skip
refine Kd.R_lit_step Kd.string _ 9 ?hg (N := 21) ?hd (xs := ([(⟨#[97, 98, 97, 98]⟩ : ByteArray), (⟨#[98, 97]⟩ : ByteArray), (⟨#[]⟩ : ByteArray), (⟨#[120, 97, 98]⟩ : ByteArray), (⟨#[97, 97, 98]⟩ : ByteArray)] : List ByteArray)) (inner := [.string (⟨#[97, 98, 97, 98]⟩ : ByteArray), .string (⟨#[98, 97]⟩ : ByteArray), .string (⟨#[]⟩ : ByteArray), .string (⟨#[120, 97, 98]⟩ : ByteArray), .string (⟨#[97, 97, 98]⟩ : ByteArray)]) (ok := fun _ => True) (okp := fun _ => True) ?hr ?hp (fun _ hk => hk) trivial (Below.refl _ _) (Nat.le_refl _) (by simp) ?_; (case hd => rfl); (case hg => rfl); (case hr => first | (go_simp; done) | (go_simp; rfl)); (case hp => exact (Reps.one (show Kd.M Kd.string _ _ _ (⟨#[97, 98, 97, 98]⟩ : ByteArray) [.string (⟨#[97, 98, 97, 98]⟩ : ByteArray)] from rfl) (Reps.one (show Kd.M Kd.string _ _ _ (⟨#[98, 97]⟩ : ByteArray) [.string (⟨#[98, 97]⟩ : ByteArray)] from rfl) (Reps.one (show Kd.M Kd.string _ _ _ (⟨#[]⟩ : ByteArray) [.string (⟨#[]⟩ : ByteArray)] from rfl) (Reps.one (show Kd.M Kd.string _ _ _ (⟨#[120, 97, 98]⟩ : ByteArray) [.string (⟨#[120, 97, 98]⟩ : ByteArray)] from rfl) (Reps.one (show Kd.M Kd.string _ _ _ (⟨#[97, 97, 98]⟩ : ByteArray) [.string (⟨#[97, 97, 98]⟩ : ByteArray)] from rfl) (Reps.none _ _)))))))
intro v162 w21 ho22 hb hg_ hnew_
clear hg_ hnew_
(first | rw [← Ny161.out] at ho22 | (simp only [Int.reduceToNat] at ho22; rw [← Ny161.out] at ho22))
have HO163 := am (Kd.R_lower (Kd.R_new' ho22 (Kd.Q_lt (rq HO_158001))) (keep_size (w := w) (g := g) (row := none) (by repeat (first | (with_reducible first | exact HK.out | apply KeepBut.set_ | apply keep_drewN | apply keep_drew | apply keep_alloc | refine keep_far ?_ GW147.out _ | refine keep_far ?_ GW157.out _) | exact HK.out))))
replace HO_158001 := am (Kd.Q_elder' (rq HO_158001) (Kd.R_base ho22) hb)
replace BK147 := am (blk_below (rk BK147) hb)
replace BK157 := am (blk_below (rk BK157) hb)
replace HK := am (KeepBut.trans (by repeat (first | (with_reducible first | exact HK.out | apply KeepBut.set_ | apply keep_drewN | apply keep_drew | apply keep_alloc | refine keep_far ?_ GW147.out _ | refine keep_far ?_ GW157.out _) | exact HK.out)) (KeepBut.of_below hb g none) (.inl rfl))
replace HB := am (below_step (by repeat (first | (with_reducible first | exact HB.out | apply b1 | apply b2 | apply b3 | refine below_set ?_ (IsS118.ge HI0.out) | refine below_set ?_ GE147.out | refine below_set ?_ GE157.out) | exact HB.out)) hb)
replace HI0 := am (IsS118.below (by repeat (first | (with_reducible first | exact HI0.out | apply IsS118.alloc | apply IsS118.drewN | apply IsS118.drew | apply IsS118.set_1 | apply IsS118.set_2 | refine IsS118.far ?_ NB0_147.out _ | refine IsS118.far ?_ NB0_157.out _) | exact HI0.out)) hb)
clear hb ho22
obtain ⟨Ao23, co23, eo23⟩ := Kd.R_slice HO163.out
subst eo23
obtain ⟨ado23, fo23, _⟩ := Kd.at_string (Kd.R_reads' HO163.out).2.2 0 (by decide) (by rw [Ny161.out]; simp)
cases fo23
refine hK.out _ _ (bc3 BK157) (fun hHeld => ?_)
clear hK K
refine norm_ (a' := _) (show Act.put _ (some 21) _ = _ from na) ?_
refine one_ (i := 3) (N := some 23) (bm 11 15) rfl rfl (one_of HT_.out (by kernel_rfl)) (by decide) (fun K hK => ?_)
refine goes_ Try.func52 (by kernel_rfl) rfl #[.pointer (some ⟨g, 0, none⟩), .int .i64 5] (by rfl) rfl rfl mt ?_
with_reducible refine (spec_l1Below.calls g s0_0 x1001_1 x1002_1 5 t164 t165 t166 w0 _ ?side1 ?side2 A15.out).mono ?_
(case side1 => repeat (first | (with_reducible first | exact HI0.out | apply IsS118.alloc | apply IsS118.drewN | apply IsS118.drew | apply IsS118.set_1 | apply IsS118.set_2 | refine IsS118.far ?_ NB0_147.out _ | refine IsS118.far ?_ NB0_157.out _) | exact HI0.out))
(case side2 => repeat (first | (with_reducible first | exact HB.out | apply b1 | apply b2 | apply b3 | refine below_set ?_ (IsS118.ge HI0.out) | refine below_set ?_ GE147.out | refine below_set ?_ GE157.out) | exact HB.out))
rintro e w24 ⟨rfl, hi, hb, hk⟩
refine ⟨_, rfl, ?_⟩
replace HO_158001 := am (Kd.Q_mono (Kd.Q_keep (IsS118.apartQ (show IsS118 w0 _ g s0_0 x1001_1 x1002_1 from by repeat (first | (with_reducible first | exact HI0.out | apply IsS118.alloc | apply IsS118.drewN | apply IsS118.drew | apply IsS118.set_1 | apply IsS118.set_2 | refine IsS118.far ?_ NB0_147.out _ | refine IsS118.far ?_ NB0_157.out _) | exact HI0.out)) (rq HO_158001) (by decide)) hk (fun _ h => h.2)) (fun _ h => h.1))
replace BK147 := am (KeepBut.blk hk (g' := gb147) (o := .cells #[.int .i64 0, .slice none 0 0, .int .i64 0] 26 (0, 0)) (rk BK147) NB147_0.out (by simp))
replace BK157 := am (KeepBut.blk hk (g' := gb157) (o := .cells #[.int .i64 x158000_1, .slice Ao19 x158001_1.length co19, .int .i64 x158002_1] 26 (0, 0)) (rk BK157) NB157_0.out (by simp))
replace HO163 := am (Kd.R_mono (Kd.R_keep (IsS118.apart (show IsS118 w0 _ g s0_0 x1001_1 x1002_1 from by repeat (first | (with_reducible first | exact HI0.out | apply IsS118.alloc | apply IsS118.drewN | apply IsS118.drew | apply IsS118.set_1 | apply IsS118.set_2 | refine IsS118.far ?_ NB0_147.out _ | refine IsS118.far ?_ NB0_157.out _) | exact HI0.out)) (rr HO163) (by decide)) hk (fun _ h => h.2)) (fun _ h => h.1))
replace HK := am (KeepBut.trans (by repeat (first | (with_reducible first | exact HK.out | apply KeepBut.set_ | apply keep_drewN | apply keep_drew | apply keep_alloc | refine keep_far ?_ GW147.out _ | refine keep_far ?_ GW157.out _) | exact HK.out)) hk (.inl rfl))
replace HB := am (hb)
replace HI0 := am (hi)
(try clear hb)
(try clear hk)
(try clear hi)
refine hK.out _ _ (bc3 BK157) (fun hHeld => ?_)
clear hK K
refine norm_ (a' := _) (show Act.put _ (some 23) _ = _ from na) ?_
exact norm_ nz0 (hCont (.slice (some ado23) y161.length co23, ado23) _ ⟨hHeld, (rrm HO163), (by (with_reducible repeat (first | apply Kd.Q_alloc | apply Kd.Q_drewN | apply Kd.Q_drew)); exact Kd.Q_mono HO_158001.out (fun _ hk => hk.2)), ⟨_, rfl⟩, (rk BK147), (rk BK157), (by repeat (first | (with_reducible first | exact HI0.out | apply IsS118.alloc | apply IsS118.drewN | apply IsS118.drew | apply IsS118.set_1 | apply IsS118.set_2 | refine IsS118.far ?_ NB0_147.out _ | refine IsS118.far ?_ NB0_157.out _) | exact HI0.out)), (by repeat (first | (with_reducible first | exact HK.out | apply KeepBut.set_ | apply keep_drewN | apply keep_drew | apply keep_alloc | refine keep_far ?_ GW147.out _ | refine keep_far ?_ GW157.out _) | exact HK.out)), (by repeat (first | (with_reducible first | exact HB.out | apply b1 | apply b2 | apply b3 | refine below_set ?_ (IsS118.ge HI0.out) | refine below_set ?_ GE147.out | refine below_set ?_ GE157.out) | exact HB.out))⟩)
)
·(
skip
refine goes_ Try.func52 (by kernel_rfl) rfl #[.pointer (some ⟨g, 0, none⟩), .int .i64 5] (by rfl) rfl rfl mt ?_
with_reducible refine (spec_l1Below.calls g s0_0 x1001_1 x1002_1 5 t164 t165 t166 w0 _ ?side1 ?side2 A15.out).mono ?_
(case side1 => repeat (first | (with_reducible first | exact HI0.out | apply IsS118.alloc | apply IsS118.drewN | apply IsS118.drew | apply IsS118.set_1 | apply IsS118.set_2 | refine IsS118.far ?_ NB0_147.out _ | refine IsS118.far ?_ NB0_157.out _) | exact HI0.out))
(case side2 => repeat (first | (with_reducible first | exact HB.out | apply b1 | apply b2 | apply b3 | refine below_set ?_ (IsS118.ge HI0.out) | refine below_set ?_ GE147.out | refine below_set ?_ GE157.out) | exact HB.out))
rintro e w21 ⟨rfl, hi, hb, hk⟩
refine ⟨_, rfl, ?_⟩
replace HO_158001 := am (Kd.Q_mono (Kd.Q_keep (IsS118.apartQ (show IsS118 w0 _ g s0_0 x1001_1 x1002_1 from by repeat (first | (with_reducible first | exact HI0.out | apply IsS118.alloc | apply IsS118.drewN | apply IsS118.drew | apply IsS118.set_1 | apply IsS118.set_2 | refine IsS118.far ?_ NB0_147.out _ | refine IsS118.far ?_ NB0_157.out _) | exact HI0.out)) (rq HO_158001) (by decide)) hk (fun _ h => h.2)) (fun _ h => h.1))
replace BK147 := am (KeepBut.blk hk (g' := gb147) (o := .cells #[.int .i64 0, .slice none 0 0, .int .i64 0] 26 (0, 0)) (rk BK147) NB147_0.out (by simp))
replace BK157 := am (KeepBut.blk hk (g' := gb157) (o := .cells #[.int .i64 x158000_1, .slice Ao19 x158001_1.length co19, .int .i64 x158002_1] 26 (0, 0)) (rk BK157) NB157_0.out (by simp))
replace HK := am (KeepBut.trans (by repeat (first | (with_reducible first | exact HK.out | apply KeepBut.set_ | apply keep_drewN | apply keep_drew | apply keep_alloc | refine keep_far ?_ GW147.out _ | refine keep_far ?_ GW157.out _) | exact HK.out)) hk (.inl rfl))
replace HB := am (hb)
replace HI0 := am (hi)
(try clear hb)
(try clear hk)
(try clear hi)
refine hK.out _ _ (bc3 BK157) (fun hHeld => ?_)
clear hK K
refine norm_ (a' := _) (show Act.put _ (some 23) _ = _ from na) ?_
refine one_ (i := 1) (N := some 21) (bm 11 15) rfl rfl (one_of HT_.out (by kernel_rfl)) (by decide) (fun K hK => ?_)
refine Kd.R_lit_step Kd.string _ 9 ?hg (N := 21) ?hd (xs := ([(⟨#[97, 98, 97, 98]⟩ : ByteArray), (⟨#[98, 97]⟩ : ByteArray), (⟨#[]⟩ : ByteArray), (⟨#[120, 97, 98]⟩ : ByteArray), (⟨#[97, 97, 98]⟩ : ByteArray)] : List ByteArray)) (inner := [.string (⟨#[97, 98, 97, 98]⟩ : ByteArray), .string (⟨#[98, 97]⟩ : ByteArray), .string (⟨#[]⟩ : ByteArray), .string (⟨#[120, 97, 98]⟩ : ByteArray), .string (⟨#[97, 97, 98]⟩ : ByteArray)]) (ok := fun _ => True) (okp := fun _ => True) ?hr ?hp (fun _ hk => hk) trivial (Below.refl _ _) (Nat.le_refl _) (by simp) ?_; (case hd => rfl); (case hg => rfl); (case hr => first | (go_simp; done) | (go_simp; rfl)); (case hp => exact (Reps.one (show Kd.M Kd.string _ _ _ (⟨#[97, 98, 97, 98]⟩ : ByteArray) [.string (⟨#[97, 98, 97, 98]⟩ : ByteArray)] from rfl) (Reps.one (show Kd.M Kd.string _ _ _ (⟨#[98, 97]⟩ : ByteArray) [.string (⟨#[98, 97]⟩ : ByteArray)] from rfl) (Reps.one (show Kd.M Kd.string _ _ _ (⟨#[]⟩ : ByteArray) [.string (⟨#[]⟩ : ByteArray)] from rfl) (Reps.one (show Kd.M Kd.string _ _ _ (⟨#[120, 97, 98]⟩ : ByteArray) [.string (⟨#[120, 97, 98]⟩ : ByteArray)] from rfl) (Reps.one (show Kd.M Kd.string _ _ _ (⟨#[97, 97, 98]⟩ : ByteArray) [.string (⟨#[97, 97, 98]⟩ : ByteArray)] from rfl) (Reps.none _ _)))))))
intro v162 w22 ho23 hb hg_ hnew_
clear hg_ hnew_
(first | rw [← Ny161.out] at ho23 | (simp only [Int.reduceToNat] at ho23; rw [← Ny161.out] at ho23))
have HO163 := am (Kd.R_lower (Kd.R_new' ho23 (Kd.Q_lt (rq HO_158001))) (keep_size (w := w) (g := g) (row := none) (by repeat (first | (with_reducible first | exact HK.out | apply KeepBut.set_ | apply keep_drewN | apply keep_drew | apply keep_alloc | refine keep_far ?_ GW147.out _ | refine keep_far ?_ GW157.out _) | exact HK.out))))
replace HO_158001 := am (Kd.Q_elder' (rq HO_158001) (Kd.R_base ho23) hb)
replace BK147 := am (blk_below (rk BK147) hb)
replace BK157 := am (blk_below (rk BK157) hb)
replace HK := am (KeepBut.trans (by repeat (first | (with_reducible first | exact HK.out | apply KeepBut.set_ | apply keep_drewN | apply keep_drew | apply keep_alloc | refine keep_far ?_ GW147.out _ | refine keep_far ?_ GW157.out _) | exact HK.out)) (KeepBut.of_below hb g none) (.inl rfl))
replace HB := am (below_step (by repeat (first | (with_reducible first | exact HB.out | apply b1 | apply b2 | apply b3 | refine below_set ?_ (IsS118.ge HI0.out) | refine below_set ?_ GE147.out | refine below_set ?_ GE157.out) | exact HB.out)) hb)
replace HI0 := am (IsS118.below (by repeat (first | (with_reducible first | exact HI0.out | apply IsS118.alloc | apply IsS118.drewN | apply IsS118.drew | apply IsS118.set_1 | apply IsS118.set_2 | refine IsS118.far ?_ NB0_147.out _ | refine IsS118.far ?_ NB0_157.out _) | exact HI0.out)) hb)
clear hb ho23
obtain ⟨Ao24, co24, eo24⟩ := Kd.R_slice HO163.out
subst eo24
obtain ⟨ado24, fo24, _⟩ := Kd.at_string (Kd.R_reads' HO163.out).2.2 0 (by decide) (by rw [Ny161.out]; simp)
cases fo24
refine hK.out _ _ (bc3 BK157) (fun hHeld => ?_)
clear hK K
refine norm_ (a' := _) (show Act.put _ (some 21) _ = _ from na) ?_
exact norm_ nz0 (hCont (.slice (some ado24) y161.length co24, ado24) _ ⟨hHeld, (rrm HO163), (by (with_reducible repeat (first | apply Kd.Q_alloc | apply Kd.Q_drewN | apply Kd.Q_drew)); exact Kd.Q_mono HO_158001.out (fun _ hk => hk.2)), ⟨_, rfl⟩, (rk BK147), (rk BK157), (by repeat (first | (with_reducible first | exact HI0.out | apply IsS118.alloc | apply IsS118.drewN | apply IsS118.drew | apply IsS118.set_1 | apply IsS118.set_2 | refine IsS118.far ?_ NB0_147.out _ | refine IsS118.far ?_ NB0_157.out _) | exact HI0.out)), (by repeat (first | (with_reducible first | exact HK.out | apply KeepBut.set_ | apply keep_drewN | apply keep_drew | apply keep_alloc | refine keep_far ?_ GW147.out _ | refine keep_far ?_ GW157.out _) | exact HK.out)), (by repeat (first | (with_reducible first | exact HB.out | apply b1 | apply b2 | apply b3 | refine below_set ?_ (IsS118.ge HI0.out) | refine below_set ?_ GE147.out | refine below_set ?_ GE157.out) | exact HB.out))⟩)
)
)
rintro ⟨v162, adz_v162⟩ w25 ⟨hHeld, h0_, h1_, h2_, h3_, h4_, h5_, h6_, h7_⟩
(try dsimp only at hHeld h0_ h1_ h2_ h3_ h4_ h5_ h6_ h7_)
have HO163 := am h0_; replace HO_158001 := am h1_; have HA_HO163 := am h2_; replace BK147 := am h3_; replace BK157 := am h4_; replace HI0 := am h5_; replace HK := am h6_; replace HB := am h7_
clear h0_ h1_ h2_ h3_ h4_ h5_ h6_ h7_
obtain ⟨co26, eo26⟩ := HA_HO163.out
clear HA_HO163
subst eo26
refine norm_ (a' := _) nr ?_
refine pu_ 4 24 (bm 11 31) HT_.out ?_
refine one_ (i := 5) (N := some 25) (bm 11 63) rfl rfl (one_of HT_.out (by kernel_rfl)) (by decide) (fun K hK => ?_)
(have p167 : 0 ≤ (t164 : Int) := dt_; have q167 : t164 < (y161.length : Int) := dt_; obtain ⟨ad167, e167, hx167_0⟩ := Kd.at_string (Kd.R_reads' HO163.out).2.2 t164 p167 q167; obtain rfl : adz_v162 = ad167 := (by injection e167))
refine value_ (w1 := ?_) (v := ?_) (by rfl) rfl ?_ ?_
rotate_left 2
·(
go_simp
constructor
·rfl
·rfl
)
clear hx167_0
refine hK.out _ _ (bc3 BK157) (fun hHeld => ?_)
clear hK K
refine norm_ (a' := _) (show Act.put _ (some 25) _ = _ from na) ?_
refine one_ (i := 6) (N := some 26) (bm 11 127) rfl rfl (one_of HT_.out (by kernel_rfl)) (by decide) (fun K hK => ?_)
refine goes_ Try.func17 (by kernel_rfl) rfl #[.agg #[.int .i64 x158000_1, .slice Ao19 x158001_1.length co19, .int .i64 x158002_1], .string (rdOf ByteArray.empty y161 t164)] (by rfl) rfl rfl mt ?_
with_reducible refine (spec_Keep.calls k1 x158000_1 _ _ x158001_1 x158002_1 (rdOf ByteArray.empty y161 t164) t168 t169 t172 t173 _ ?side1 ?side2 A18.out).mono ?_
(case side1 => repeat (first | exact (Kd.Q_reads' HO_158001.out).2.2 | (with_reducible refine Kd.C_alloc ?_ _) | (with_reducible refine Kd.C_drewN ?_ _) | (with_reducible refine Kd.C_drew ?_)))
(case side2 => exact (Kd.Q_reads' HO_158001.out).2.1)
rintro e w27 ⟨v170, rfl, ho0, hb⟩
refine ⟨_, rfl, ?_⟩
have HO171 := am (Kd.Q_lower (Kd.Q_new' (Kd.Q_new' ho0 (Kd.Q_lt (rq HO_158001))) (Kd.R_lt (rr HO163))) (keep_size (w := w) (g := g) (row := none) (by repeat (first | (with_reducible first | exact HK.out | apply KeepBut.set_ | apply keep_drewN | apply keep_drew | apply keep_alloc | refine keep_far ?_ GW147.out _ | refine keep_far ?_ GW157.out _) | exact HK.out))))
replace HO_158001 := am (Kd.Q_elder' (rq HO_158001) (Kd.Q_base ho0) hb)
replace HO163 := am (Kd.R_elder' (rr HO163) (Kd.Q_base ho0) hb)
replace BK147 := am (blk_below (rk BK147) hb)
replace BK157 := am (blk_below (rk BK157) hb)
replace HK := am (KeepBut.trans (by repeat (first | (with_reducible first | exact HK.out | apply KeepBut.set_ | apply keep_drewN | apply keep_drew | apply keep_alloc | refine keep_far ?_ GW147.out _ | refine keep_far ?_ GW157.out _) | exact HK.out)) (KeepBut.of_below hb g none) (.inl rfl))
replace HB := am (below_step (by repeat (first | (with_reducible first | exact HB.out | apply b1 | apply b2 | apply b3 | refine below_set ?_ (IsS118.ge HI0.out) | refine below_set ?_ GE147.out | refine below_set ?_ GE157.out) | exact HB.out)) hb)
replace HI0 := am (IsS118.below (by repeat (first | (with_reducible first | exact HI0.out | apply IsS118.alloc | apply IsS118.drewN | apply IsS118.drew | apply IsS118.set_1 | apply IsS118.set_2 | refine IsS118.far ?_ NB0_147.out _ | refine IsS118.far ?_ NB0_157.out _) | exact HI0.out)) hb)
(try clear hb)
(try clear ho0)
obtain ⟨Ao29, co29, eo29, _⟩ := Kd.Q_slice HO171.out
(first | subst eo29 | (injection eo29 with f1_ f2_ f3_; have f4_ := f1_.symm; have f5_ := f3_.symm; clear f1_ f2_ f3_; subst f4_; subst f5_))
refine hK.out _ _ (bc3 BK157) (fun hHeld => ?_)
clear hK K
refine norm_ (a' := _) (show Act.put _ (some 26) _ = _ from na) ?_
refine pu_ 7 19 (bm 11 255) HT_.out ?_
refine pu_ 8 27 (bm 11 511) HT_.out ?_
refine pu_ 9 28 (bm 11 1023) HT_.out ?_
refine last_ (i := 10) (N := none) (bm 11 2047) rfl rfl (one_of HT_.out (by kernel_rfl)) (by decide) (fun K hK => ?_)
have hs28 : w27.cell? ⟨gb157, 0, none⟩ = some (.int .i64 x158000_1) := (blk_cell BK157.out 0).trans rfl
have hfs28 := blk_frozen BK157.out 0
have hns28_0 := NB147_157.out
have hms28_0 := NB157_147.out
have hs30 : w27.cell? ⟨gb157, 1, none⟩ = some (.slice Ao19 x158001_1.length co19) := (blk_cell BK157.out 1).trans rfl
have hfs30 := blk_frozen BK157.out 1
have hns30_0 := NB147_157.out
have hms30_0 := NB157_147.out
have hs31 : w27.cell? ⟨gb157, 2, none⟩ = some (.int .i64 x158002_1) := (blk_cell BK157.out 2).trans rfl
have hfs31 := blk_frozen BK157.out 2
have hns31_0 := NB147_157.out
have hms31_0 := NB157_147.out
refine skip_ (w1 := ?_) (by rfl) rfl ?_ ?_
rotate_left
·(
go_simp
rfl
)
refine hK.out _ _ ?_
clear hK K
refine done_ (done_of HT_.out (by kernel_rfl)) ?_
try go_wp2
go_roundg k1
case measure => have := HK1.out; omega
case rel => exact ⟨(wrap64 (x5_1 - 1)), (t165), (t166), (t168), (t169), (t172), (.slice Ao29 t169.length co29), (by first | rfl | (simp; done) | (simp [*]; done)), H', ⟨by have := HK1.out; omega⟩, ⟨Qm3 HO171 BK157⟩, ⟨rf3 NB147_157 BK147⟩, ⟨by (with_reducible repeat (first | apply k1 | apply k2 | apply k3)); refine blk_put (cs := #[.int .i64 t168, .slice Ao29 t169.length co29, .int .i64 x158002_1]) ?_ 2 _ rfl; (with_reducible repeat (first | apply k1 | apply k2 | apply k3)); refine blk_put (cs := #[.int .i64 t168, .slice Ao19 x158001_1.length co19, .int .i64 x158002_1]) ?_ 1 _ rfl; (with_reducible repeat (first | apply k1 | apply k2 | apply k3)); refine blk_put (cs := #[.int .i64 x158000_1, .slice Ao19 x158001_1.length co19, .int .i64 x158002_1]) ?_ 0 _ rfl; (with_reducible repeat (first | apply k1 | apply k2 | apply k3)); exact BK157.out⟩, ⟨by repeat (first | (with_reducible first | exact HI0.out | apply IsS118.alloc | apply IsS118.drewN | apply IsS118.drew | apply IsS118.set_1 | apply IsS118.set_2 | refine IsS118.far ?_ NB0_147.out _ | refine IsS118.far ?_ NB0_157.out _) | exact HI0.out)⟩, ⟨by repeat (first | (with_reducible first | exact HK.out | apply KeepBut.set_ | apply keep_drewN | apply keep_drew | apply keep_alloc | refine keep_far ?_ GW147.out _ | refine keep_far ?_ GW157.out _) | exact HK.out)⟩, ⟨by repeat (first | (with_reducible first | exact HB.out | apply b1 | apply b2 | apply b3 | refine below_set ?_ (IsS118.ge HI0.out) | refine below_set ?_ GE147.out | refine below_set ?_ GE157.out) | exact HB.out)⟩⟩
)
)
)
)

end Go.Proofs.Ytalopdcephohgaa.RA
