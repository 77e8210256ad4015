/- Contracts of Go functions that laws of this seat reach: each Lean function answers as its Go function does. No condition. Written by wip/tools/inj.py, over the kit's print. -/
import Derived.Test.YtfhkpneffmcdbaaDoorQCx0
import Derived.Test.YtfhkpneffmcdbaaDoorQCx2
import Derived.Test.YtfhkpneffmcdbaaDoorQCx3
namespace Go.Proofs.YtfhkpneffmcdbaaDoor.QC
open Go.RowKit Go.Proofs.YtfhkpneffmcdbaaDoorW.PrintWords Go.Proofs.YtfhkpneffmcdbaaDoorW.PrintLast Go.Proofs.YtfhkpneffmcdbaaDoorW.PrintMore
attribute [local go_sem] max2_int min2_int max_two min_two max_three min_three max_four min_four   -- for this text's walks alone
set_option linter.unusedVariables false
set_option linter.unusedSimpArgs false

/-! ### spec_l13Bend: function 68 -/
mutual
def spec_l13Bend.l0 : Nat → ByteArray → List Int → Int → List Int → Int → Int → Option (ByteArray × Int × Int)
 | 0, _, _, _, _, _, _ => none
 | k + 1, x2, x7, x8, x1000, x1001, x1002 => if x8 > 0 then (spec_l13Bend.j1 k x2 x7 x8 (decide ((x7.length : Int) > 0)) x1000 x1001 x1002) else (spec_l13Bend.j1 k x2 x7 x8 false x1000 x1001 x1002)
def spec_l13Bend.j1 : Nat → ByteArray → List Int → Int → Bool → List Int → Int → Int → Option (ByteArray × Int × Int)
 | 0, _, _, _, _, _, _, _ => none
 | k + 1, x2, x7, x8, x20, x1000, x1001, x1002 => if x20 = true then ((spec_l1Below.f x1000 x1001 x1002 (x7.length : Int)).bind fun bt271 => ((spec_l1Below.f x1000 bt271.2.1 bt271.2.2 4).bind fun bt274 => (if bt274.1 = 0 then ((spec_l1Below.f x1000 bt274.2.1 bt274.2.2 (x2.size : Int)).bind fun bt277 => (if 0 ≤ bt277.1 then (if bt277.1 < (x2.size : Int) then (if 0 ≤ bt271.1 then (if bt271.1 < (x7.length : Int) then (spec_l13Bend.l0 k x2 (x7.set (bt271.1 : Int).toNat (bt x2 bt277.1)) (wrap64 (x8 - 1)) x1000 bt277.2.1 bt277.2.2) else (none)) else (none)) else (none)) else (none))) else (if bt274.1 = 1 then (if 0 ≤ bt271.1 then (if bt271.1 ≤ (x7.length : Int) then (spec_l13Bend.l0 k x2 (x7.take (bt271.1 : Int).toNat) (wrap64 (x8 - 1)) x1000 bt274.2.1 bt274.2.2) else (none)) else (none)) else (if bt274.1 = 2 then ((some (([] : List Int) : List Int)).bind fun y284 => (if 0 ≤ bt271.1 then (if bt271.1 ≤ (x7.length : Int) then ((some (x7.take (bt271.1 : Int).toNat : List Int)).bind fun y287 => (if y284.length + y287.length < 140737488355328 then ((some (y284 ++ y287 : List Int)).bind fun y291 => (if 0 ≤ (wrap64 (bt271.1 + 1)) then (if (wrap64 (bt271.1 + 1)) ≤ (x7.length : Int) then ((some (x7.drop ((wrap64 (bt271.1 + 1)) : Int).toNat : List Int)).bind fun y294 => (if y291.length + y294.length < 140737488355328 then (spec_l13Bend.l0 k x2 (y291 ++ y294) (wrap64 (x8 - 1)) x1000 bt274.2.1 bt274.2.2) else (none))) else (none)) else (none))) else (none))) else (none)) else (none))) else (if bt274.1 = 3 then ((some (([] : List Int) : List Int)).bind fun y301 => (if 0 ≤ bt271.1 then (if bt271.1 ≤ (x7.length : Int) then ((some (x7.take (bt271.1 : Int).toNat : List Int)).bind fun y304 => (if y301.length + y304.length < 140737488355328 then ((some (y301 ++ y304 : List Int)).bind fun y308 => ((spec_l1Below.f x1000 bt274.2.1 bt274.2.2 (x2.size : Int)).bind fun bt311 => (if 0 ≤ bt311.1 then (if bt311.1 < (x2.size : Int) then (if y308.length < 140737488355328 then ((some (y308 ++ [bt x2 bt311.1] : List Int)).bind fun y314 => ((some (x7.drop (bt271.1 : Int).toNat : List Int)).bind fun y317 => (if y314.length + y317.length < 140737488355328 then (spec_l13Bend.l0 k x2 (y314 ++ y317) (wrap64 (x8 - 1)) x1000 bt311.2.1 bt311.2.2) else (none)))) else (none)) else (none)) else (none)))) else (none))) else (none)) else (none))) else (spec_l13Bend.l0 k x2 x7 (wrap64 (x8 - 1)) x1000 bt274.2.1 bt274.2.2))))))) else (some (strOfNums x7, x1001, x1002))
end
def spec_l13Bend.f (k : Nat) (s0_0 : List Int) (s0_1 : Int) (s0_2 : Int) (a1 : ByteArray) (a2 : ByteArray) : Option (ByteArray × Int × Int) := (spec_bytesOf.f a1).bind fun t265 => ((spec_l1Below.f s0_0 s0_1 s0_2 3).bind fun bt268 => (spec_l13Bend.l0 k a2 t265 bt268.1 s0_0 bt268.2.1 bt268.2.2))
theorem spec_l13Bend.mono_l : ∀ k, (∀ y0 y1 y2 y3 y4 y5, LeO (spec_l13Bend.l0 k y0 y1 y2 y3 y4 y5) (spec_l13Bend.l0 (k + 1) y0 y1 y2 y3 y4 y5)) ∧ (∀ y0 y1 y2 y3 y4 y5 y6, LeO (spec_l13Bend.j1 k y0 y1 y2 y3 y4 y5 y6) (spec_l13Bend.j1 (k + 1) y0 y1 y2 y3 y4 y5 y6))
 | 0 => ⟨fun _ _ _ _ _ _ r h => by simp [spec_l13Bend.l0] at h, fun _ _ _ _ _ _ _ r h => by simp [spec_l13Bend.j1] at h⟩
 | k + 1 => by
  obtain ⟨ih0, ih1⟩ := spec_l13Bend.mono_l k
  refine ⟨?_, ?_⟩
  ·intro y0 y1 y2 y3 y4 y5
   unfold spec_l13Bend.l0
   repeat' first
   | (with_reducible exact ih0 _ _ _ _ _ _)
   | (with_reducible exact ih1 _ _ _ _ _ _ _)
   | (with_reducible exact LeO.refl _)
   | (with_reducible exact LeO.none _)
   | (with_reducible refine LeO.ite ?_ ?_)
   | (with_reducible refine LeO.bind ?_ (fun _ => ?_))
  ·intro y0 y1 y2 y3 y4 y5 y6
   unfold spec_l13Bend.j1
   repeat' first
   | (with_reducible exact ih0 _ _ _ _ _ _)
   | (with_reducible exact ih1 _ _ _ _ _ _ _)
   | (with_reducible exact LeO.refl _)
   | (with_reducible exact LeO.none _)
   | (with_reducible refine LeO.ite ?_ ?_)
   | (with_reducible refine LeO.bind ?_ (fun _ => ?_))
theorem spec_l13Bend.mono : ∀ a0 a1 a2 a3 a4 k, LeO (spec_l13Bend.f k a0 a1 a2 a3 a4) (spec_l13Bend.f (k + 1) a0 a1 a2 a3 a4) := by
 intro a0 a1 a2 a3 a4 k
 obtain ⟨ih0, ih1⟩ := spec_l13Bend.mono_l k
 unfold spec_l13Bend.f
 repeat' first
   | (with_reducible exact ih0 _ _ _ _ _ _)
   | (with_reducible exact ih1 _ _ _ _ _ _ _)
   | (with_reducible exact LeO.refl _)
   | (with_reducible exact LeO.none _)
   | (with_reducible refine LeO.ite ?_ ?_)
   | (with_reducible refine LeO.bind ?_ (fun _ => ?_))
def spec_l13Bend.T12 : Bool × List (List Nat × List Nat) := (true, [([], []), ([], []), ([], []), ([1, 2], [1, 2]), ([0, 3], [0, 3]), ([], []), ([], []), ([6], [6]), ([5, 7], [5, 7]), ([4, 8, 4], [4, 8]), ([9, 9, 0, 1, 2, 3, 4, 5, 6, 7, 8, 9], [1, 5, 9])])
def spec_l13Bend.B12 : List Nat := [0, 0, 0, 6, 15, 0, 0, 64, 224, 511, 1023]
theorem spec_l13Bend.tab12 : rtab .any (opsOf Tryd.f68 12) = spec_l13Bend.T12 := by kernel_rfl
theorem spec_l13Bend.bits12 : waitsOk spec_l13Bend.T12.2 spec_l13Bend.B12 = true := by kernel_rfl
def spec_l13Bend.T14 : Bool × List (List Nat × List Nat) := (true, [([], []), ([], []), ([], []), ([1, 2], [1, 2]), ([0, 3], [0, 3]), ([], []), ([], []), ([], []), ([7], [7]), ([6, 8, 4], [6, 8]), ([5, 9], [5, 9]), ([10], [10]), ([4, 11, 9], [4, 11]), ([], []), ([], []), ([13, 14], [13, 14]), ([12, 15, 12], [12, 15]), ([16, 16, 0, 1, 2, 3, 4, 5, 6, 7, 8, 9, 10, 11, 12, 13, 14, 15, 16], [1, 13, 16])])
def spec_l13Bend.B14 : List Nat := [0, 0, 0, 6, 15, 0, 0, 0, 128, 479, 1023, 2047, 4095, 0, 0, 24576, 65535, 131071]
theorem spec_l13Bend.tab14 : rtab .any (opsOf Tryd.f68 14) = spec_l13Bend.T14 := by kernel_rfl
theorem spec_l13Bend.bits14 : waitsOk spec_l13Bend.T14.2 spec_l13Bend.B14 = true := by kernel_rfl
theorem IsS83.apartM {w0 W : World} {g : Nat} {f0 : List Int} {f1 : Int} {f2 : Int} {e : Nat} {base : Nat} {ok : Nat → Prop} {v : Value} {xs : List Int} (h : IsS83 w0 W g f0 f1 f2) (ho : Mk.R e W base ok v xs) (ht : e ≠ 83) : Mk.R e W base (fun k => ok k ∧ k ≠ g) v xs := by
 obtain ⟨A0, c0, hb, hg, hr0⟩ := h
 exact Mk.R_types ho hb ht
theorem IsS83.own_neM {w0 W : World} {g : Nat} {f0 : List Int} {f1 : Int} {f2 : Int} {e : Nat} {base : Nat} {ok : Nat → Prop} {v : Value} {xs : List Int} (h : IsS83 w0 W g f0 f1 f2) (ho : Mk.R e W base ok v xs) (ht : e ≠ 83) : some g ≠ v.ownBlock := by
 obtain ⟨A0, c0, hb, hg, hr0⟩ := h
 exact Mk.R_ne ho hb ht
set_option maxHeartbeats 8000000 in
set_option maxRecDepth 100000 in
theorem spec_l13Bend.calls (k : Nat) (g : Nat) (s0_0 : List Int) (s0_1 : Int) (s0_2 : Int) (a1 : ByteArray) (a2 : ByteArray) (r1 : ByteArray) (r2 : Int) (r3 : Int) (w0 w : World) (hI : IsS83 w0 w g s0_0 s0_1 s0_2) (hB : Below w0.heap.size w0 w) (h : spec_l13Bend.f k s0_0 s0_1 s0_2 a1 a2 = some (r1, r2, r3)) :
  Calls Tryd.prog 68 #[.pointer (some ⟨g, 0, none⟩), .string a1, .string a2] w fun e w' => e = .returned (.string r1) ∧ IsS83 w0 w' g s0_0 r2 r3 ∧ Below w0.heap.size w0 w' ∧ KeepBut w w' g none := by
 have HI0 := am hI
 have HK := am (KeepBut.refl w g none)
 have HL := am hB.size
 clear hI
 have HW0 := am hB.size
 have HB := am hB
 clear hB
 have H := h
 unfold spec_l13Bend.f at H
 clear h
 replace H := Option.bind_eq_some_iff.mp H
 obtain ⟨t265, A40, H⟩ := H
 (try dsimp only at H)
 have A4 := am A40
 clear A40
 replace H := Option.bind_eq_some_iff.mp H
 obtain ⟨⟨t268, t269, t270⟩, A50, H⟩ := H
 (try dsimp only at H)
 have A5 := am A50
 clear A50
 have H' := am H
 clear H
 go_enter Tryd.func68, Tryd.ntmps68
 go_wp2_with (first | ((with_reducible refine gate_dst (N := 11) rfl ?_); refine Mk.conv_event rfl (N := 11) rfl (src := 9) (dst := 22) (e := 5) (s := a1) (x := .tmp 10) rfl Tryd.underlying9 Tryd.underlying22 Tryd.underlying5 rfl (spec_bytesOf.size A4.out) ?_; intro v266 w6 HOMK_ hb; rw [spec_bytesOf.is A4.out] at HOMK_; have n0_ := am (Mk.R_lower HOMK_ (keep_size (w := w) (g := g) (row := none) (rkk HK))); have n1_ := am (IsS83.below (ri83 HI0) hb); have n2_ := am (KeepBut.trans (rkk HK) (KeepBut.of_below hb g none) (.inl rfl)); have n3_ := am (below_step (rbi83 HB HI0 IsS83.ge) hb); clear HI0; clear HK; clear HB; have HO267 := n0_; have HI0 := n1_; have HK := n2_; have HB := n3_; clear n0_ n1_ n2_ n3_; (try clear hb); (try clear hb2); (try clear hk); (try clear hi); (try clear HOMK_)) | ((with_reducible refine gate_callee (f := 53) rfl ?_); refine gl_ (some 13) Tryd.func53 #[.pointer (some ⟨g, 0, none⟩), .int .i64 3] ?_; (with_reducible refine (spec_l1Below.calls g s0_0 s0_1 s0_2 3 t268 t269 t270 w0 _ ?side1 ?side2 A5.out).mono ?_); (case side1 => exact ri83 HI0); (case side2 => exact rbi83 HB HI0 IsS83.ge); rintro e w7 ⟨rfl, hi, hb, hk⟩; refine ⟨_, rfl, ?_⟩; have n0_ := am (Mk.R_mono (Mk.R_keep (IsS83.apartM (show IsS83 w0 _ g s0_0 s0_1 s0_2 from ri83 HI0) (by (with_reducible repeat (first | apply Mk.R_alloc | apply Mk.R_drewN | apply Mk.R_drew)); exact HO267.out) (by decide)) hk (fun _ h => h.2)) (fun _ h => h.1)); have n1_ := am (KeepBut.trans (rkk HK) hk (.inl rfl)); have n2_ := am (hb); have n3_ := am (hi); clear HO267; clear HK; clear HB; clear HI0; have HO267 := n0_; have HK := n1_; have HB := n2_; have HI0 := n3_; clear n0_ n1_ n2_ n3_; (try clear hb); (try clear hb2); (try clear hk); (try clear hi)))
 go_loopg [7, 8] k (fun kq v7 v8 w' => ∃ (x7_1 : List Int) (x8_1 : Int) (x1001_1 : Int) (x1002_1 : Int), v8 = .int .i64 x8_1 ∧ Aside0 (spec_l13Bend.l0 kq a2 x7_1 x8_1 s0_0 x1001_1 x1002_1 = some (r1, r2, r3)) ∧ Aside0 (kq ≤ k) ∧ Aside0 (Mk.R 5 w' w.heap.size (fun _ => True) v7 x7_1) ∧ Aside0 (IsS83 w0 w' g s0_0 x1001_1 x1002_1) ∧ Aside0 (KeepBut w w' g none) ∧ Aside0 (Below w0.heap.size w0 w'))
 case atStart => exact ⟨(t265), (t268), (t269), (t270), (by first | rfl | (simp; done) | (simp [*]; done)), H', ⟨Nat.le_refl _⟩, ⟨by (with_reducible repeat (first | apply Mk.R_alloc | apply Mk.R_drewN | apply Mk.R_drew)); exact HO267.out⟩, ⟨ri83 HI0⟩, ⟨rkk HK⟩, ⟨rbi83 HB HI0 IsS83.ge⟩⟩
 case round =>
  clear H'
  try clear c1
  try clear p2
  try clear c5
  try clear c6
  obtain ⟨x7_1, x8_1, x1001_1, x1002_1, rfl, HA, HK1, HO_7, HI0, HK, HB⟩ := hrel
  cases gk with
  | zero => exact absurd HA.out (by simp [spec_l13Bend.l0])
  | succ k1 =>
   have H := HA.out
   clear HA
   simp only [spec_l13Bend.l0] at H
   have HC8 := am H
   clear H
   go_upto_region 3 with (fail)
   go_cut [20] (fun v20 wc => ∃ (kq : Nat) (x20_7 : Bool), v20 = .bool x20_7 ∧ Aside0 (spec_l13Bend.j1 kq a2 x7_1 x8_1 x20_7 s0_0 x1001_1 x1002_1 = some (r1, r2, r3)) ∧ Aside0 (kq ≤ k1) ∧ Aside0 (Mk.R 5 wc w.heap.size (fun _ => True) u7 x7_1) ∧ Aside0 (IsS83 w0 wc g s0_0 x1001_1 x1002_1) ∧ Aside0 (KeepBut w wc g none) ∧ Aside0 (Below w0.heap.size w0 wc))
   case first =>
    have H := HC8.out
    clear HC8
    by_cases c9 : x8_1 > 0
    ·rw [if_pos c9] at H
     have c9b0 : decide (0 < x8_1) = true := decide_eq_true c9
     clear c9
     (first | rw [c9b0] | (simp only [i64_w, i32_w]; rw [c9b0]) | skip)
     have H' := am H
     clear H
     obtain ⟨Ao10, co10, eo10⟩ := Mk.R_slice HO_7.out
     subst eo10
     go_wp2
     go_meet
     case rel => exact ⟨_, (decide ((x7_1.length : Int) > 0)), (by first | rfl | (simp; done) | (simp [*]; done)), H', ⟨by have := HK1.out; first | omega | exact Nat.le_refl _⟩, ⟨by (with_reducible repeat (first | apply Mk.R_alloc | apply Mk.R_drewN | apply Mk.R_drew)); exact HO_7.out⟩, ⟨ri83 HI0⟩, ⟨rkk HK⟩, ⟨rbi83 HB HI0 IsS83.ge⟩⟩
    ·rw [if_neg c9] at H
     have c9b0 : decide (0 < x8_1) = false := decide_eq_false c9
     clear c9
     (first | rw [c9b0] | (simp only [i64_w, i32_w]; rw [c9b0]) | skip)
     have H' := am H
     clear H
     go_wp2
     go_meet
     case rel => exact ⟨_, (false), (by first | rfl | (simp; done) | (simp [*]; done)), H', ⟨by have := HK1.out; first | omega | exact Nat.le_refl _⟩, ⟨by (with_reducible repeat (first | apply Mk.R_alloc | apply Mk.R_drewN | apply Mk.R_drew)); exact HO_7.out⟩, ⟨ri83 HI0⟩, ⟨rkk HK⟩, ⟨rbi83 HB HI0 IsS83.ge⟩⟩
   case rest =>
    clear HC8
    try clear c1
    try clear p2
    try clear c5
    try clear c6
    try clear c9
    try clear c9b0
    try clear c10
    try clear p2
    obtain ⟨kq, x20_7, rfl, HA, HJ7, HO_7, HI0, HK, HB⟩ := hcut
    cases kq with
    | zero => exact absurd HA.out (by simp [spec_l13Bend.j1])
    | succ kj7 =>
     have H := HA.out
     clear HA
     simp only [spec_l13Bend.j1] at H
     by_cases c11 : x20_7 = true
     ·subst c11
      rw [if_pos rfl] at H
      replace H := Option.bind_eq_some_iff.mp H
      obtain ⟨⟨t271, t272, t273⟩, A120, H⟩ := H
      (try dsimp only at H)
      have A12 := am A120
      clear A120
      replace H := Option.bind_eq_some_iff.mp H
      obtain ⟨⟨t274, t275, t276⟩, A130, H⟩ := H
      (try dsimp only at H)
      have A13 := am A130
      clear A130
      refine em_ (p := t274 = 0) (fun c14 => ?g20p) (fun c14 => ?g20n)
      case' g20p =>
       rw [if_pos c14] at H
       have c14b0 : (t274 == 0) = true := beq_iff_eq.mpr c14
       have c14b1 : (t274 != 0) = false := bne_eq_false_iff_eq.mpr c14
       clear c14
       replace H := Option.bind_eq_some_iff.mp H
       obtain ⟨⟨t277, t278, t279⟩, A150, H⟩ := H
       (try dsimp only at H)
       have A15 := am A150
       clear A150
       refine em_ (p := 0 ≤ t277) (fun c16 => ?g3p) (fun c16 => ?g3n)
       case' g3p =>
        rw [if_pos c16] at H
        have c16b0 : decide (0 ≤ t277) = true := decide_eq_true c16
        clear c16
        refine em_ (p := t277 < (a2.size : Int)) (fun c17 => ?g2p) (fun c17 => ?g2n)
        case' g2p =>
         rw [if_pos c17] at H
         have c17b0 : decide (t277 < (a2.size : Int)) = true := decide_eq_true c17
         clear c17
         refine em_ (p := 0 ≤ t271) (fun c19 => ?g1p) (fun c19 => ?g1n)
         case' g1p =>
          rw [if_pos c19] at H
          have c19b0 : decide (0 ≤ t271) = true := decide_eq_true c19
          clear c19
          refine em_ (p := t271 < (x7_1.length : Int)) (fun c20 => ?g0p) (fun c20 => ?g0n)
          case' g0p =>
           rw [if_pos c20] at H
           have c20b0 : decide (t271 < (x7_1.length : Int)) = true := decide_eq_true c20
           clear c20
           obtain ⟨y280, hy280⟩ : ∃ y_ : List Int, y_ = (x7_1.set (t271 : Int).toNat (bt a2 t277)) := ⟨_, rfl⟩
           replace H : (spec_l13Bend.l0 kj7 a2 y280 (wrap64 (x8_1 - 1)) s0_0 t278 t279) = some (r1, r2, r3) := by first | (rw [hy280]; with_reducible exact H) | (rw [hy280]; exact H) | exact H
           have Ny280 := am hy280
           clear hy280
           have H' := am H
           clear H
           obtain ⟨Ao22, co22, eo22⟩ := Mk.R_slice HO_7.out
           subst eo22
           have lf3_ := trivial
          case g0n =>
           rw [if_neg c20] at H
           exact absurd H (by simp)
         case g1n =>
          rw [if_neg c19] at H
          exact absurd H (by simp)
        case g2n =>
         rw [if_neg c17] at H
         exact absurd H (by simp)
       case g3n =>
        rw [if_neg c16] at H
        exact absurd H (by simp)
      case g20n =>
       rw [if_neg c14] at H
       have c14b0 : (t274 == 0) = false := beq_eq_false_iff_ne.mpr c14
       have c14b1 : (t274 != 0) = true := bne_iff_ne.mpr c14
       by_cases c28 : t274 = 1
       ·rw [if_pos c28] at H
        have c28b0 : (t274 == 1) = true := beq_iff_eq.mpr c28
        have c28b1 : (t274 != 1) = false := bne_eq_false_iff_eq.mpr c28
        clear c28
        refine em_ (p := 0 ≤ t271) (fun c29 => ?g5p) (fun c29 => ?g5n)
        case' g5p =>
         rw [if_pos c29] at H
         have c29b0 := eq_true c29
         have c29b1 : decide (0 ≤ t271) = true := decide_eq_true c29
         clear c29
         refine em_ (p := t271 ≤ (x7_1.length : Int)) (fun c30 => ?g4p) (fun c30 => ?g4n)
         case' g4p =>
          rw [if_pos c30] at H
          have c30b0 := eq_true c30
          have c30b1 : decide (t271 ≤ (x7_1.length : Int)) = true := decide_eq_true c30
          clear c30
          obtain ⟨y281, hy281⟩ : ∃ y_ : List Int, y_ = (x7_1.take (t271 : Int).toNat) := ⟨_, rfl⟩
          replace H : (spec_l13Bend.l0 kj7 a2 y281 (wrap64 (x8_1 - 1)) s0_0 t275 t276) = some (r1, r2, r3) := by first | (rw [hy281]; with_reducible exact H) | (rw [hy281]; exact H) | exact H
          have Ny281 := am hy281
          clear hy281
          have H' := am H
          clear H
          obtain ⟨Ao31, co31, eo31⟩ := Mk.R_slice HO_7.out
          subst eo31
          have lf4_ := trivial
         case g4n =>
          rw [if_neg c30] at H
          exact absurd H (by simp)
        case g5n =>
         rw [if_neg c29] at H
         exact absurd H (by simp)
        all_goals
         go_wp2_with (first | ((with_reducible refine gate_callee (f := 53) rfl ?_); refine gl_ (some 26) Tryd.func53 #[.pointer (some ⟨g, 0, none⟩), .int .i64 (x7_1.length : Int)] ?_; (with_reducible refine (spec_l1Below.calls g s0_0 x1001_1 x1002_1 (x7_1.length : Int) t271 t272 t273 w0 _ ?side1 ?side2 A12.out).mono ?_); (case side1 => exact ri83 HI0); (case side2 => exact rbi83 HB HI0 IsS83.ge); rintro e w32 ⟨rfl, hi, hb, hk⟩; refine ⟨_, rfl, ?_⟩; have n0_ := am (Mk.R_mono (Mk.R_keep (IsS83.apartM (show IsS83 w0 _ g s0_0 x1001_1 x1002_1 from ri83 HI0) (by (with_reducible repeat (first | apply Mk.R_alloc | apply Mk.R_drewN | apply Mk.R_drew)); exact HO_7.out) (by decide)) hk (fun _ h => h.2)) (fun _ h => h.1)); have n1_ := am (KeepBut.trans (rkk HK) hk (.inl rfl)); have n2_ := am (hb); have n3_ := am (hi); clear HO_7; clear HK; clear HB; clear HI0; have HO_7 := n0_; have HK := n1_; have HB := n2_; have HI0 := n3_; clear n0_ n1_ n2_ n3_; (try clear hb); (try clear hb2); (try clear hk); (try clear hi)) | ((with_reducible refine gate_callee (f := 53) rfl ?_); refine gl_ (some 28) Tryd.func53 #[.pointer (some ⟨g, 0, none⟩), .int .i64 4] ?_; (with_reducible refine (spec_l1Below.calls g s0_0 t272 t273 4 t274 t275 t276 w0 _ ?side1 ?side2 A13.out).mono ?_); (case side1 => exact ri83 HI0); (case side2 => exact rbi83 HB HI0 IsS83.ge); rintro e w33 ⟨rfl, hi, hb, hk⟩; refine ⟨_, rfl, ?_⟩; have n0_ := am (Mk.R_mono (Mk.R_keep (IsS83.apartM (show IsS83 w0 _ g s0_0 t272 t273 from ri83 HI0) (by (with_reducible repeat (first | apply Mk.R_alloc | apply Mk.R_drewN | apply Mk.R_drew)); exact HO_7.out) (by decide)) hk (fun _ h => h.2)) (fun _ h => h.1)); have n1_ := am (KeepBut.trans (rkk HK) hk (.inl rfl)); have n2_ := am (hb); have n3_ := am (hi); clear HO_7; clear HK; clear HB; clear HI0; have HO_7 := n0_; have HK := n1_; have HB := n2_; have HI0 := n3_; clear n0_ n1_ n2_ n3_; (try clear hb); (try clear hb2); (try clear hk); (try clear hi); have q34 : (t271 : Int) ≤ ((x7_1.length : Int) : Int) := dt_; obtain ⟨i034, hi034, _, hsz34, _⟩ := info_parts info5; have hcut34 := cut_to (P := Tryd.prog) 22 5 .i64 Tryd.underlying22 hi034 Ao31 x7_1.length co31 t271 dt_ q34 (Mk.R_reads' HO_7.out).2.1; have hr34 := Mk.R_take (m := (t271 : Int).toNat) HO_7.out (by omega); have hy34 : y281.length = (t271 : Int).toNat := (by rw [Ny281.out, List.length_take]; omega); rw [← Ny281.out] at hr34; rw [← hy34] at hr34 hcut34; clear hy34 hi034 hsz34 HO_7; have HO283 := am hr34; clear hr34; replace q34 := eq_true q34))
         go_roundg kj7
         case measure => have := HK1.out; have := HJ7.out; omega
         case rel => exact ⟨(y281), (wrap64 (x8_1 - 1)), (t275), (t276), (by first | rfl | (simp; done) | (simp [*]; done)), H', ⟨by have := HK1.out; have := HJ7.out; omega⟩, ⟨by (with_reducible repeat (first | apply Mk.R_alloc | apply Mk.R_drewN | apply Mk.R_drew)); exact HO283.out⟩, ⟨ri83 HI0⟩, ⟨rkk HK⟩, ⟨rbi83 HB HI0 IsS83.ge⟩⟩
       ·rw [if_neg c28] at H
        have c28b0 : (t274 == 1) = false := beq_eq_false_iff_ne.mpr c28
        have c28b1 : (t274 != 1) = true := bne_iff_ne.mpr c28
        refine em_ (p := t274 = 2) (fun c35 => ?g19p) (fun c35 => ?g19n)
        case' g19p =>
         rw [if_pos c35] at H
         have c35b0 : (t274 == 2) = true := beq_iff_eq.mpr c35
         have c35b1 : (t274 != 2) = false := bne_eq_false_iff_eq.mpr c35
         clear c35
         obtain ⟨y284, hy284⟩ : ∃ y_ : List Int, y_ = (([] : List Int)) := ⟨_, rfl⟩
         replace H : (if 0 ≤ t271 then (if t271 ≤ (x7_1.length : Int) then ((some (x7_1.take (t271 : Int).toNat : List Int)).bind fun y287 => (if y284.length + y287.length < 140737488355328 then ((some (y284 ++ y287 : List Int)).bind fun y291 => (if 0 ≤ (wrap64 (t271 + 1)) then (if (wrap64 (t271 + 1)) ≤ (x7_1.length : Int) then ((some (x7_1.drop ((wrap64 (t271 + 1)) : Int).toNat : List Int)).bind fun y294 => (if y291.length + y294.length < 140737488355328 then (spec_l13Bend.l0 kj7 a2 (y291 ++ y294) (wrap64 (x8_1 - 1)) s0_0 t275 t276) else (none))) else (none)) else (none))) else (none))) else (none)) else (none)) = some (r1, r2, r3) := by first | (rw [hy284]; with_reducible exact H) | (rw [hy284]; exact H) | exact H
         have Ny284 := am hy284
         clear hy284
         refine em_ (p := 0 ≤ t271) (fun c36 => ?g11p) (fun c36 => ?g11n)
         case' g11p =>
          rw [if_pos c36] at H
          have c36b0 := eq_true c36
          have c36b1 : decide (0 ≤ t271) = true := decide_eq_true c36
          clear c36
          refine em_ (p := t271 ≤ (x7_1.length : Int)) (fun c37 => ?g10p) (fun c37 => ?g10n)
          case' g10p =>
           rw [if_pos c37] at H
           have c37b0 := eq_true c37
           have c37b1 : decide (t271 ≤ (x7_1.length : Int)) = true := decide_eq_true c37
           clear c37
           obtain ⟨y287, hy287⟩ : ∃ y_ : List Int, y_ = (x7_1.take (t271 : Int).toNat) := ⟨_, rfl⟩
           replace H : (if y284.length + y287.length < 140737488355328 then ((some (y284 ++ y287 : List Int)).bind fun y291 => (if 0 ≤ (wrap64 (t271 + 1)) then (if (wrap64 (t271 + 1)) ≤ (x7_1.length : Int) then ((some (x7_1.drop ((wrap64 (t271 + 1)) : Int).toNat : List Int)).bind fun y294 => (if y291.length + y294.length < 140737488355328 then (spec_l13Bend.l0 kj7 a2 (y291 ++ y294) (wrap64 (x8_1 - 1)) s0_0 t275 t276) else (none))) else (none)) else (none))) else (none)) = some (r1, r2, r3) := by first | (rw [hy287]; with_reducible exact H) | (rw [hy287]; exact H) | exact H
           have Ny287 := am hy287
           clear hy287
           refine em_ (p := y284.length + y287.length < 140737488355328) (fun c38 => ?g9p) (fun c38 => ?g9n)
           case' g9p =>
            rw [if_pos c38] at H
            have LMc38 := am c38
            clear c38
            obtain ⟨y291, hy291⟩ : ∃ y_ : List Int, y_ = (y284 ++ y287) := ⟨_, rfl⟩
            replace H : (if 0 ≤ (wrap64 (t271 + 1)) then (if (wrap64 (t271 + 1)) ≤ (x7_1.length : Int) then ((some (x7_1.drop ((wrap64 (t271 + 1)) : Int).toNat : List Int)).bind fun y294 => (if y291.length + y294.length < 140737488355328 then (spec_l13Bend.l0 kj7 a2 (y291 ++ y294) (wrap64 (x8_1 - 1)) s0_0 t275 t276) else (none))) else (none)) else (none)) = some (r1, r2, r3) := by first | (rw [hy291]; with_reducible exact H) | (rw [hy291]; exact H) | exact H
            have Ny291 := am hy291
            clear hy291
            obtain ⟨ji39, hji39⟩ : ∃ j_ : Int, (wrap64 (t271 + 1)) = j_ := ⟨_, rfl⟩
            replace H : (if 0 ≤ (ji39) then (if (ji39) ≤ (x7_1.length : Int) then ((some (x7_1.drop ((ji39) : Int).toNat : List Int)).bind fun y294 => (if y291.length + y294.length < 140737488355328 then (spec_l13Bend.l0 kj7 a2 (y291 ++ y294) (wrap64 (x8_1 - 1)) s0_0 t275 t276) else (none))) else (none)) else (none)) = some (r1, r2, r3) := by first | (rw [hji39] at H; exact H) | (simp only [hji39] at H ⊢; exact H)
            (try rw [hji39] at A12)
            (try rw [hji39] at A13)
            have hji39w : (IntKind.i64.wrap (t271 + 1)) = ji39 := (i64_w _).trans hji39
            refine em_ (p := 0 ≤ (ji39)) (fun c40 => ?g8p) (fun c40 => ?g8n)
            case' g8p =>
             rw [if_pos c40] at H
             have c40b0 := eq_true c40
             have c40b1 : decide (0 ≤ (ji39)) = true := decide_eq_true c40
             clear c40
             refine em_ (p := (ji39) ≤ (x7_1.length : Int)) (fun c41 => ?g7p) (fun c41 => ?g7n)
             case' g7p =>
              rw [if_pos c41] at H
              have c41b0 := eq_true c41
              have c41b1 : decide ((ji39) ≤ (x7_1.length : Int)) = true := decide_eq_true c41
              clear c41
              obtain ⟨y294, hy294⟩ : ∃ y_ : List Int, y_ = (x7_1.drop ((ji39) : Int).toNat) := ⟨_, rfl⟩
              replace H : (if y291.length + y294.length < 140737488355328 then (spec_l13Bend.l0 kj7 a2 (y291 ++ y294) (wrap64 (x8_1 - 1)) s0_0 t275 t276) else (none)) = some (r1, r2, r3) := by first | (rw [hy294]; with_reducible exact H) | (rw [hy294]; exact H) | exact H
              have Ny294 := am hy294
              clear hy294
              refine em_ (p := y291.length + y294.length < 140737488355328) (fun c42 => ?g6p) (fun c42 => ?g6n)
              case' g6p =>
               rw [if_pos c42] at H
               have LMc42 := am c42
               clear c42
               obtain ⟨y298, hy298⟩ : ∃ y_ : List Int, y_ = (y291 ++ y294) := ⟨_, rfl⟩
               replace H : (spec_l13Bend.l0 kj7 a2 y298 (wrap64 (x8_1 - 1)) s0_0 t275 t276) = some (r1, r2, r3) := by first | (rw [hy298]; with_reducible exact H) | (rw [hy298]; exact H) | exact H
               have Ny298 := am hy298
               clear hy298
               have H' := am H
               clear H
               obtain ⟨Ao43, co43, eo43⟩ := Mk.R_slice HO_7.out
               subst eo43
               have lf5_ := trivial
              case g6n =>
               rw [if_neg c42] at H
               exact absurd H (by simp)
             case g7n =>
              rw [if_neg c41] at H
              exact absurd H (by simp)
            case g8n =>
             rw [if_neg c40] at H
             exact absurd H (by simp)
           case g9n =>
            rw [if_neg c38] at H
            exact absurd H (by simp)
          case g10n =>
           rw [if_neg c37] at H
           exact absurd H (by simp)
         case g11n =>
          rw [if_neg c36] at H
          exact absurd H (by simp)
        case g19n =>
         rw [if_neg c35] at H
         have c35b0 : (t274 == 2) = false := beq_eq_false_iff_ne.mpr c35
         have c35b1 : (t274 != 2) = true := bne_iff_ne.mpr c35
         refine em_ (p := t274 = 3) (fun c53 => ?g21p) (fun c53 => ?g21n)
         case g21p =>
          rw [if_pos c53] at H
          have c53b0 : (t274 == 3) = true := beq_iff_eq.mpr c53
          have c53b1 : (t274 != 3) = false := bne_eq_false_iff_eq.mpr c53
          clear c53
          obtain ⟨y301, hy301⟩ : ∃ y_ : List Int, y_ = (([] : List Int)) := ⟨_, rfl⟩
          replace H : (if 0 ≤ t271 then (if t271 ≤ (x7_1.length : Int) then ((some (x7_1.take (t271 : Int).toNat : List Int)).bind fun y304 => (if y301.length + y304.length < 140737488355328 then ((some (y301 ++ y304 : List Int)).bind fun y308 => ((spec_l1Below.f s0_0 t275 t276 (a2.size : Int)).bind fun bt311 => (if 0 ≤ bt311.1 then (if bt311.1 < (a2.size : Int) then (if y308.length < 140737488355328 then ((some (y308 ++ [bt a2 bt311.1] : List Int)).bind fun y314 => ((some (x7_1.drop (t271 : Int).toNat : List Int)).bind fun y317 => (if y314.length + y317.length < 140737488355328 then (spec_l13Bend.l0 kj7 a2 (y314 ++ y317) (wrap64 (x8_1 - 1)) s0_0 bt311.2.1 bt311.2.2) else (none)))) else (none)) else (none)) else (none)))) else (none))) else (none)) else (none)) = some (r1, r2, r3) := by first | (rw [hy301]; with_reducible exact H) | (rw [hy301]; exact H) | exact H
          have Ny301 := am hy301
          clear hy301
          refine em_ (p := 0 ≤ t271) (fun c54 => ?g18p) (fun c54 => ?g18n)
          case' g18p =>
           rw [if_pos c54] at H
           have c54b0 := eq_true c54
           have c54b1 : decide (0 ≤ t271) = true := decide_eq_true c54
           clear c54
           refine em_ (p := t271 ≤ (x7_1.length : Int)) (fun c55 => ?g17p) (fun c55 => ?g17n)
           case' g17p =>
            rw [if_pos c55] at H
            have c55b0 := eq_true c55
            have c55b1 : decide (t271 ≤ (x7_1.length : Int)) = true := decide_eq_true c55
            clear c55
            obtain ⟨y304, hy304⟩ : ∃ y_ : List Int, y_ = (x7_1.take (t271 : Int).toNat) := ⟨_, rfl⟩
            replace H : (if y301.length + y304.length < 140737488355328 then ((some (y301 ++ y304 : List Int)).bind fun y308 => ((spec_l1Below.f s0_0 t275 t276 (a2.size : Int)).bind fun bt311 => (if 0 ≤ bt311.1 then (if bt311.1 < (a2.size : Int) then (if y308.length < 140737488355328 then ((some (y308 ++ [bt a2 bt311.1] : List Int)).bind fun y314 => ((some (x7_1.drop (t271 : Int).toNat : List Int)).bind fun y317 => (if y314.length + y317.length < 140737488355328 then (spec_l13Bend.l0 kj7 a2 (y314 ++ y317) (wrap64 (x8_1 - 1)) s0_0 bt311.2.1 bt311.2.2) else (none)))) else (none)) else (none)) else (none)))) else (none)) = some (r1, r2, r3) := by first | (rw [hy304]; with_reducible exact H) | (rw [hy304]; exact H) | exact H
            have Ny304 := am hy304
            clear hy304
            refine em_ (p := y301.length + y304.length < 140737488355328) (fun c56 => ?g16p) (fun c56 => ?g16n)
            case' g16p =>
             rw [if_pos c56] at H
             have LMc56 := am c56
             clear c56
             obtain ⟨y308, hy308⟩ : ∃ y_ : List Int, y_ = (y301 ++ y304) := ⟨_, rfl⟩
             replace H : ((spec_l1Below.f s0_0 t275 t276 (a2.size : Int)).bind fun bt311 => (if 0 ≤ bt311.1 then (if bt311.1 < (a2.size : Int) then (if y308.length < 140737488355328 then ((some (y308 ++ [bt a2 bt311.1] : List Int)).bind fun y314 => ((some (x7_1.drop (t271 : Int).toNat : List Int)).bind fun y317 => (if y314.length + y317.length < 140737488355328 then (spec_l13Bend.l0 kj7 a2 (y314 ++ y317) (wrap64 (x8_1 - 1)) s0_0 bt311.2.1 bt311.2.2) else (none)))) else (none)) else (none)) else (none))) = some (r1, r2, r3) := by first | (rw [hy308]; with_reducible exact H) | (rw [hy308]; exact H) | exact H
             have Ny308 := am hy308
             clear hy308
             replace H := Option.bind_eq_some_iff.mp H
             obtain ⟨⟨t311, t312, t313⟩, A570, H⟩ := H
             (try dsimp only at H)
             have A57 := am A570
             clear A570
             refine em_ (p := 0 ≤ t311) (fun c58 => ?g15p) (fun c58 => ?g15n)
             case' g15p =>
              rw [if_pos c58] at H
              have c58b0 : decide (0 ≤ t311) = true := decide_eq_true c58
              clear c58
              refine em_ (p := t311 < (a2.size : Int)) (fun c59 => ?g14p) (fun c59 => ?g14n)
              case' g14p =>
               rw [if_pos c59] at H
               have c59b0 : decide (t311 < (a2.size : Int)) = true := decide_eq_true c59
               clear c59
               refine em_ (p := y308.length < 140737488355328) (fun c61 => ?g13p) (fun c61 => ?g13n)
               case' g13p =>
                rw [if_pos c61] at H
                have LMc61 := am c61
                clear c61
                obtain ⟨y314, hy314⟩ : ∃ y_ : List Int, y_ = (y308 ++ [bt a2 t311]) := ⟨_, rfl⟩
                replace H : ((some (x7_1.drop (t271 : Int).toNat : List Int)).bind fun y317 => (if y314.length + y317.length < 140737488355328 then (spec_l13Bend.l0 kj7 a2 (y314 ++ y317) (wrap64 (x8_1 - 1)) s0_0 t312 t313) else (none))) = some (r1, r2, r3) := by first | (rw [hy314]; with_reducible exact H) | (rw [hy314]; exact H) | exact H
                have Ny314 := am hy314
                clear hy314
                have c62b0 := eq_true (dt_ : 0 ≤ t271)
                have c63b0 := eq_true (dt_ : t271 ≤ (x7_1.length : Int))
                obtain ⟨y317, hy317⟩ : ∃ y_ : List Int, y_ = (x7_1.drop (t271 : Int).toNat) := ⟨_, rfl⟩
                replace H : (if y314.length + y317.length < 140737488355328 then (spec_l13Bend.l0 kj7 a2 (y314 ++ y317) (wrap64 (x8_1 - 1)) s0_0 t312 t313) else (none)) = some (r1, r2, r3) := by first | (rw [hy317]; with_reducible exact H) | (rw [hy317]; exact H) | exact H
                have Ny317 := am hy317
                clear hy317
                refine em_ (p := y314.length + y317.length < 140737488355328) (fun c64 => ?g12p) (fun c64 => ?g12n)
                case' g12p =>
                 rw [if_pos c64] at H
                 have LMc64 := am c64
                 clear c64
                 obtain ⟨y321, hy321⟩ : ∃ y_ : List Int, y_ = (y314 ++ y317) := ⟨_, rfl⟩
                 replace H : (spec_l13Bend.l0 kj7 a2 y321 (wrap64 (x8_1 - 1)) s0_0 t312 t313) = some (r1, r2, r3) := by first | (rw [hy321]; with_reducible exact H) | (rw [hy321]; exact H) | exact H
                 have Ny321 := am hy321
                 clear hy321
                 have H' := am H
                 clear H
                 obtain ⟨Ao65, co65, eo65⟩ := Mk.R_slice HO_7.out
                 subst eo65
                 have lf6_ := trivial
                case g12n =>
                 rw [if_neg c64] at H
                 exact absurd H (by simp)
               case g13n =>
                rw [if_neg c61] at H
                exact absurd H (by simp)
              case g14n =>
               rw [if_neg c59] at H
               exact absurd H (by simp)
             case g15n =>
              rw [if_neg c58] at H
              exact absurd H (by simp)
            case g16n =>
             rw [if_neg c56] at H
             exact absurd H (by simp)
           case g17n =>
            rw [if_neg c55] at H
            exact absurd H (by simp)
          case g18n =>
           rw [if_neg c54] at H
           exact absurd H (by simp)
          all_goals
           try go_wp2_with (first | ((with_reducible refine gate_callee (f := 53) rfl ?_); refine gl_ (some 26) Tryd.func53 #[.pointer (some ⟨g, 0, none⟩), .int .i64 (x7_1.length : Int)] ?_; (with_reducible refine (spec_l1Below.calls g s0_0 x1001_1 x1002_1 (x7_1.length : Int) t271 t272 t273 w0 _ ?side1 ?side2 A12.out).mono ?_); (case side1 => exact ri83 HI0); (case side2 => exact rbi83 HB HI0 IsS83.ge); rintro e w66 ⟨rfl, hi, hb, hk⟩; refine ⟨_, rfl, ?_⟩; have n0_ := am (Mk.R_mono (Mk.R_keep (IsS83.apartM (show IsS83 w0 _ g s0_0 x1001_1 x1002_1 from ri83 HI0) (by (with_reducible repeat (first | apply Mk.R_alloc | apply Mk.R_drewN | apply Mk.R_drew)); exact HO_7.out) (by decide)) hk (fun _ h => h.2)) (fun _ h => h.1)); have n1_ := am (KeepBut.trans (rkk HK) hk (.inl rfl)); have n2_ := am (hb); have n3_ := am (hi); clear HO_7; clear HK; clear HB; clear HI0; have HO_7 := n0_; have HK := n1_; have HB := n2_; have HI0 := n3_; clear n0_ n1_ n2_ n3_; (try clear hb); (try clear hb2); (try clear hk); (try clear hi)) | ((with_reducible refine gate_callee (f := 53) rfl ?_); refine gl_ (some 28) Tryd.func53 #[.pointer (some ⟨g, 0, none⟩), .int .i64 4] ?_; (with_reducible refine (spec_l1Below.calls g s0_0 t272 t273 4 t274 t275 t276 w0 _ ?side1 ?side2 A13.out).mono ?_); (case side1 => exact ri83 HI0); (case side2 => exact rbi83 HB HI0 IsS83.ge); rintro e w67 ⟨rfl, hi, hb, hk⟩; refine ⟨_, rfl, ?_⟩; have n0_ := am (Mk.R_mono (Mk.R_keep (IsS83.apartM (show IsS83 w0 _ g s0_0 t272 t273 from ri83 HI0) (by (with_reducible repeat (first | apply Mk.R_alloc | apply Mk.R_drewN | apply Mk.R_drew)); exact HO_7.out) (by decide)) hk (fun _ h => h.2)) (fun _ h => h.1)); have n1_ := am (KeepBut.trans (rkk HK) hk (.inl rfl)); have n2_ := am (hb); have n3_ := am (hi); clear HO_7; clear HK; clear HB; clear HI0; have HO_7 := n0_; have HK := n1_; have HB := n2_; have HI0 := n3_; clear n0_ n1_ n2_ n3_; (try clear hb); (try clear hb2); (try clear hk); (try clear hi)))
           have n0_ := am (Mk.R_drew HO_7.out)
           have n1_ := am (IsS83.drew HI0.out)
           have n2_ := am (keep_drew HK.out)
           have n3_ := am (below_drew1 HB.out)
           clear HO_7
           clear HI0
           clear HK
           clear HB
           have HO_7 := n0_
           have HI0 := n1_
           have HK := n2_
           have HB := n3_
           clear n0_ n1_ n2_ n3_
           have q69 : (t271 : Int) ≤ ((x7_1.length : Int) : Int) := dt_
           obtain ⟨i069, hi069, _, hsz69, _⟩ := info_parts info5
           have hroom69 : x7_1.length ≤ co65 := (Mk.R_reads' HO_7.out).2.1
           have hC69 : Kd.C (Kd.int .u8) _ Ao65 x7_1.length x7_1 := (Mk.R_reads' HO_7.out).2.2
           have hcut69 := cut_to (P := Tryd.prog) 22 5 .i64 Tryd.underlying22 hi069 Ao65 x7_1.length co65 t271 dt_ q69 hroom69
           have hr69 := Kd.C_take (m := (t271 : Int).toNat) hC69 (by omega)
           have hy69 : y304.length = (t271 : Int).toNat := (by rw [Ny304.out, List.length_take]; omega)
           rw [← Ny304.out] at hr69
           rw [← hy69] at hcut69
           have HR307 := am hr69
           have HC307 := am (show y304.length ≤ co65 from by omega)
           clear hr69 hC69 hroom69 hi069 hsz69
           have KY69 := am hy69
           clear hy69
           have KL69 := am (show (t271 : Int).toNat ≤ x7_1.length from by omega)
           replace q69 := eq_true q69
           have q70 : (t271 : Int) ≤ ((x7_1.length : Int) : Int) := dt_
           obtain ⟨i070, hi070, _, hsz70, _⟩ := info_parts info5
           have hroom70 : x7_1.length ≤ co65 := (Mk.R_reads' HO_7.out).2.1
           have hC70 : Kd.C (Kd.int .u8) _ Ao65 x7_1.length x7_1 := (Mk.R_reads' HO_7.out).2.2
           have q070 : (0 : Int) ≤ (t271 : Int) := dt_
           have hcut70 := cut_from (P := Tryd.prog) 22 5 .i64 Tryd.underlying22 hi070 1 hsz70 Ao65 x7_1.length co65 t271 q070 q70
           have hr70 := Kd.C_drop (m := (t271 : Int).toNat) (c := co65) hC70 (by omega) hroom70
           obtain ⟨A70, hA70⟩ : ∃ A1, A1 = (if co65 = (t271 : Int).toNat then Ao65 else (Ao65 : Option Addr).map (·.add ((t271 : Int).toNat * 1))) := ⟨_, rfl⟩
           obtain ⟨c70, hc70⟩ : ∃ c1, c1 = co65 - (t271 : Int).toNat := ⟨_, rfl⟩
           have hy70 : y317.length = x7_1.length - (t271 : Int).toNat := (by rw [Ny317.out, List.length_drop] <;> omega)
           rw [show (x7_1).drop (t271 : Int).toNat = y317 from Ny317.out.symm] at hr70
           replace hr70 : Kd.C (Kd.int .u8) _ A70 y317.length y317 := (by rw [hA70]; exact hr70)
           rw [← hy70, ← hA70, ← hc70] at hcut70
           have HR320 := am hr70
           have HC320 := am (show y317.length ≤ c70 from by rw [hy70, hc70]; exact Nat.sub_le_sub_right hroom70 _)
           clear hr70 hC70 hroom70 hi070 hsz70 hc70
           have KY70 := am hy70
           have KA70 := am hA70
           clear hy70 hA70
           have KL70 := am (show (t271 : Int).toNat ≤ x7_1.length from by omega)
           replace q70 := eq_true q70
           refine start_ (n := 18) (S := fun w' => True) (ds := []) (bm 18 0) (by kernel_rfl) rfl rfl trivial (fun hHeld => ?_); refine with_tabW spec_l13Bend.tab14 spec_l13Bend.bits14 (fun HT_ HW_ => ?_)
           generalize w67.drew = w68 at HO_7 HI0 HK HB HR307 HR320 hHeld ⊢
           refine pu_ 1 60 (bm 18 2) HT_.out ?_
           refine pu_ 2 61 (bm 18 6) HT_.out ?_
           refine pu_ 3 62 (bm 18 14) HT_.out ?_
           refine pu_ 5 64 (bm 18 46) HT_.out ?_
           refine pu_ 6 65 (bm 18 110) HT_.out ?_
           refine pu_ 7 66 (bm 18 238) HT_.out ?_
           refine pu_ 8 67 (bm 18 494) HT_.out ?_
           refine pu_ 13 72 (bm 18 8686) HT_.out ?_
           refine pu_ 14 73 (bm 18 25070) HT_.out ?_
           refine pu_ 15 74 (bm 18 57838) HT_.out ?_
           refine one_ (i := 0) (N := some 59) (bm 18 57839) rfl rfl (one_of HT_.out (by kernel_rfl)) (by decide) (fun K hK => ?_)
           refine Kd.R_lit_step (Kd.int .u8) _ 5 ?hg (N := 59) ?hd (xs := ([] : List Int)) (inner := []) (ok := fun _ => True) (okp := fun _ => True) ?hr ?hp (fun _ hk => hk) trivial (Below.refl _ _) (Nat.le_refl _) (by simp) ?_; (case hd => rfl); (case hg => rfl); (case hr => first | (go_simp; done) | (go_simp; rfl)); (case hp => exact (Reps.none _ _))
           intro v302 w71 ho72 hb hg_ hnew_
           clear hg_ hnew_
           (first | rw [← Ny301.out] at ho72 | (simp only [Int.reduceToNat] at ho72; rw [← Ny301.out] at ho72))
           have n0_ := am (Mk.R_elder' (by (with_reducible repeat (first | apply Mk.R_alloc | apply Mk.R_drewN | apply Mk.R_drew)); exact HO_7.out) (Kd.R_base ho72) hb)
           have n1_ := am (Kd.R_lower (Kd.R_new' ho72 (Mk.R_lt (by (with_reducible repeat (first | apply Mk.R_alloc | apply Mk.R_drewN | apply Mk.R_drew)); exact HO_7.out))) (keep_size (w := w) (g := g) (row := none) (rkk HK)))
           have n2_ := am (IsS83.below (ri83 HI0) hb)
           have n3_ := am (Kd.C_below (by repeat (first | (with_reducible exact HR307.out) | (with_reducible refine Kd.C_alloc ?_ _) | (with_reducible refine Kd.C_drewN ?_ _) | (with_reducible refine Kd.C_drew ?_) | exact HR307.out)) hb)
           have n4_ := am (Kd.C_below (by repeat (first | (with_reducible exact HR320.out) | (with_reducible refine Kd.C_alloc ?_ _) | (with_reducible refine Kd.C_drewN ?_ _) | (with_reducible refine Kd.C_drew ?_) | exact HR320.out)) hb)
           have n5_ := am (KeepBut.trans (rkk HK) (KeepBut.of_below hb g none) (.inl rfl))
           have n6_ := am (below_step (rbi83 HB HI0 IsS83.ge) hb)
           clear HO_7
           clear HI0
           clear HR307
           clear HR320
           clear HK
           clear HB
           have HO_7 := n0_
           have HO303 := n1_
           have HI0 := n2_
           have HR307 := n3_
           have HR320 := n4_
           have HK := n5_
           have HB := n6_
           clear n0_ n1_ n2_ n3_ n4_ n5_ n6_
           clear hb ho72
           refine hK.out _ _ trivial (fun hHeld => ?_)
           clear hK K
           refine norm_ (a' := ?_) ?_ ?_
           rotate_left
           ·show Act.put _ (some 59) _ = _
            simp only [Act.put, List.setIfInBounds_toArray, List.set_cons_zero, List.set_cons_succ, i64_w, i32_w]
            rfl
           refine one_ (i := 4) (N := some 63) (bm 18 57855) rfl rfl (one_of HT_.out (by kernel_rfl)) (by decide) (fun K hK => ?_)
           refine Kd.R_append_rows_step (Kd.int .u8) w.heap.size (by rfl) (.tmp 59) (.tmp 62) 22 5 (.int .u8 0) 1 rfl Tryd.underlying22 info5 rfl (by decide) (by omega) v302 y301 y304 _ _ _ (fun k_ => some k_ ≠ (.slice Ao65 x7_1.length co65 : Value).ownBlock) (fun _ => False) rfl rfl ?aO ?aR (fun _ _ h => h) (fun _ h => h.elim) ?aF (Below.refl _ _) ?aS ?aL ?_
           (case aR => repeat (first | exact (by repeat (first | (with_reducible exact HR307.out) | (with_reducible refine Kd.C_alloc ?_ _) | (with_reducible refine Kd.C_drewN ?_ _) | (with_reducible refine Kd.C_drew ?_) | exact HR307.out)) | (with_reducible refine Kd.C_alloc ?_ _) | (with_reducible refine Kd.C_drewN ?_ _) | (with_reducible refine Kd.C_drew ?_)))
           (case aF => exact (fun k_ hk => Kd.fresh' (Mk.R_lt (by (with_reducible repeat (first | apply Mk.R_alloc | apply Mk.R_drewN | apply Mk.R_drew)); exact HO_7.out)) k_ hk))
           (case aO => exact (by (with_reducible repeat (first | apply r1 | apply r2 | apply r3)); exact Kd.R_mono HO303.out (fun _ hk => hk.2)))
           (case aS => exact (keep_size (w := w) (g := g) (row := none) (rkk HK)))
           (case aL => have := LMc56.out; omega)
           intro v309 w73 ho hb hg hat
           rw [← Ny308.out] at ho
           have n0_ := am (Mk.R_after (ok := (fun _ => True)) (by (with_reducible repeat (first | apply Mk.R_alloc | apply Mk.R_drewN | apply Mk.R_drew)); exact HO_7.out) hg hat)
           have n1_ := am (IsS83.grown (ri83 HI0) hg (IsS83.own_ne HI0.out HO303.out (by decide)))
           have n2_ := am (below_weaken (rbi83 HB HI0 IsS83.ge) HL.out hb)
           have n3_ := am (KeepBut.trans (rkk HK) (KeepBut.of_grown hg g) (Kd.R_base2 HO303.out))
           have n4_ := am ((show Kd.C (Kd.int .u8) w73 Ao65 y304.length y304 from by rw [Ny304.out]; exact Kd.C_take (m := (t271 : Int).toNat) ((Mk.R_reads' (Mk.R_after (ok := (fun _ => True)) (by (with_reducible repeat (first | apply Mk.R_alloc | apply Mk.R_drewN | apply Mk.R_drew)); exact HO_7.out) hg hat)).2.2) KL69.out))
           have n5_ := am ((show Kd.C (Kd.int .u8) w73 A70 y317.length y317 from by rw [Ny317.out, KA70.out]; exact Kd.C_drop (m := (t271 : Int).toNat) (c := co65) ((Mk.R_reads' (Mk.R_after (ok := (fun _ => True)) (by (with_reducible repeat (first | apply Mk.R_alloc | apply Mk.R_drewN | apply Mk.R_drew)); exact HO_7.out) hg hat)).2.2) KL70.out ((Mk.R_reads' (Mk.R_after (ok := (fun _ => True)) (by (with_reducible repeat (first | apply Mk.R_alloc | apply Mk.R_drewN | apply Mk.R_drew)); exact HO_7.out) hg hat)).2.1)))
           have n6_ := am (ho)
           clear HO_7
           clear HI0
           clear HB
           clear HK
           clear HR307
           clear HR320
           clear HO303
           have HO_7 := n0_
           have HI0 := n1_
           have HB := n2_
           have HK := n3_
           have HR307 := n4_
           have HR320 := n5_
           have HO310 := n6_
           clear n0_ n1_ n2_ n3_ n4_ n5_ n6_
           clear ho hb hg hat
           refine hK.out _ _ trivial (fun hHeld => ?_)
           clear hK K
           refine norm_ (a' := ?_) ?_ ?_
           rotate_left
           ·show Act.put _ (some 63) _ = _
            simp only [Act.put, List.setIfInBounds_toArray, List.set_cons_zero, List.set_cons_succ, i64_w, i32_w]
            rfl
           refine one_ (i := 9) (N := some 68) (bm 18 58367) rfl rfl (one_of HT_.out (by kernel_rfl)) (by decide) (fun K hK => ?_)
           refine goes_ Tryd.func53 (by kernel_rfl) rfl #[.pointer (some ⟨g, 0, none⟩), .int .i64 (a2.size : Int)] (by rfl) rfl rfl (by (try simp only [List.map_toArray, List.map_cons, List.map_nil]); first | done | rfl | (simp only [List.length_drop, List.length_take]; rfl)) ?_
           with_reducible refine (spec_l1Below.calls g s0_0 t275 t276 (a2.size : Int) t311 t312 t313 w0 _ ?side1 ?side2 A57.out).mono ?_
           (case side1 => exact ri83 HI0)
           (case side2 => exact rbi83 HB HI0 IsS83.ge)
           rintro e w74 ⟨rfl, hi, hb, hk⟩
           refine ⟨_, rfl, ?_⟩
           have n0_ := am (Mk.R_mono (Mk.R_keep (IsS83.apartM (show IsS83 w0 _ g s0_0 t275 t276 from ri83 HI0) (by (with_reducible repeat (first | apply Mk.R_alloc | apply Mk.R_drewN | apply Mk.R_drew)); exact HO_7.out) (by decide)) hk (fun _ h => h.2)) (fun _ h => h.1))
           have n1_ := am (Kd.R_mono (Kd.R_keep (IsS83.apart (show IsS83 w0 _ g s0_0 t275 t276 from ri83 HI0) (rr HO310) (by decide)) hk (fun _ h => h.2)) (fun _ h => h.1))
           have n2_ := am (KeepBut.trans (rkk HK) hk (.inl rfl))
           have n3_ := am ((show Kd.C (Kd.int .u8) w74 Ao65 y304.length y304 from by rw [Ny304.out]; exact Kd.C_take (m := (t271 : Int).toNat) ((Mk.R_reads' (Mk.R_mono (Mk.R_keep (IsS83.apartM (show IsS83 w0 _ g s0_0 t275 t276 from ri83 HI0) (by (with_reducible repeat (first | apply Mk.R_alloc | apply Mk.R_drewN | apply Mk.R_drew)); exact HO_7.out) (by decide)) hk (fun _ h => h.2)) (fun _ h => h.1))).2.2) KL69.out))
           have n4_ := am ((show Kd.C (Kd.int .u8) w74 A70 y317.length y317 from by rw [Ny317.out, KA70.out]; exact Kd.C_drop (m := (t271 : Int).toNat) (c := co65) ((Mk.R_reads' (Mk.R_mono (Mk.R_keep (IsS83.apartM (show IsS83 w0 _ g s0_0 t275 t276 from ri83 HI0) (by (with_reducible repeat (first | apply Mk.R_alloc | apply Mk.R_drewN | apply Mk.R_drew)); exact HO_7.out) (by decide)) hk (fun _ h => h.2)) (fun _ h => h.1))).2.2) KL70.out ((Mk.R_reads' (Mk.R_mono (Mk.R_keep (IsS83.apartM (show IsS83 w0 _ g s0_0 t275 t276 from ri83 HI0) (by (with_reducible repeat (first | apply Mk.R_alloc | apply Mk.R_drewN | apply Mk.R_drew)); exact HO_7.out) (by decide)) hk (fun _ h => h.2)) (fun _ h => h.1))).2.1)))
           have n5_ := am (hb)
           have n6_ := am (hi)
           clear HO_7
           clear HO310
           clear HK
           clear HR307
           clear HR320
           clear HB
           clear HI0
           have HO_7 := n0_
           have HO310 := n1_
           have HK := n2_
           have HR307 := n3_
           have HR320 := n4_
           have HB := n5_
           have HI0 := n6_
           clear n0_ n1_ n2_ n3_ n4_ n5_ n6_
           (try clear hb)
           (try clear hb2)
           (try clear hk)
           (try clear hi)
           have p60 : 0 ≤ (t311 : Int) := dt_
           have q60 : t311 < (a2.size : Int) := dt_
           have hx60 := bt_at a2 t311
           replace p60 := eq_true p60
           replace q60 := eq_true q60
           refine hK.out _ _ trivial (fun hHeld => ?_)
           clear hK K
           refine norm_ (a' := ?_) ?_ ?_
           rotate_left
           ·show Act.put _ (some 68) _ = _
            simp only [Act.put, List.setIfInBounds_toArray, List.set_cons_zero, List.set_cons_succ, i64_w, i32_w]
            rfl
           refine take_ (i := 10) (N := some 69) (v := ?_) (a' := ?_) (bm 18 59391) rfl rfl (take_ofW HT_.out HW_.out (by kernel_rfl)) (fun _ _ _ h => h) (Or.inl ⟨by rfl, ?_⟩) hHeld ?_ ?_
           rotate_left
           ·intro w' _
            go_simp
            with_reducible rfl
           rotate_left
           ·simp only [Act.put, List.setIfInBounds_toArray, List.set_cons_zero, List.set_cons_succ, i64_w, i32_w]
            rfl
           refine one_ (i := 11) (N := some 70) (bm 18 61439) rfl rfl (one_of HT_.out (by kernel_rfl)) (by decide) (fun K hK => ?_)
           refine value_ (w1 := ?_) (v := ?_) (by rfl) rfl ?_ ?_
           rotate_left 2
           ·go_simp
            constructor
            ·rfl
            ·rfl
           refine hK.out _ _ trivial (fun hHeld => ?_)
           clear hK K
           refine norm_ (a' := ?_) ?_ ?_
           rotate_left
           ·show Act.put _ (some 70) _ = _
            simp only [Act.put, List.setIfInBounds_toArray, List.set_cons_zero, List.set_cons_succ, i64_w, i32_w]
            rfl
           refine one_ (i := 12) (N := some 71) (bm 18 65535) rfl rfl (one_of HT_.out (by kernel_rfl)) (by decide) (fun K hK => ?_)
           refine Kd.R_append_step (Kd.int .u8) w.heap.size (by rfl) (.tmp 63) (.tmp 70) 22 5 (.int .u8 0) 1 rfl Tryd.underlying22 info5 rfl (by decide) (by omega) v309 y308 (bt a2 t311) [.int .u8 (bt a2 t311)] (fun k_ => some k_ ≠ (.slice Ao65 x7_1.length co65 : Value).ownBlock) (fun _ => False) rfl rfl ?aP (fun _ hk => hk.elim) ?aF ?aO (Below.refl _ _) ?aS ?aL ?_
           (case aP => exact rfl)
           (case aF => exact (fun k_ hk => Kd.fresh' (Mk.R_lt (by (with_reducible repeat (first | apply Mk.R_alloc | apply Mk.R_drewN | apply Mk.R_drew)); exact HO_7.out)) k_ hk))
           (case aO => exact (rr HO310))
           (case aS => exact (keep_size (w := w) (g := g) (row := none) (rkk HK)))
           (case aL => have := LMc61.out; omega)
           intro v315 w75 ho hb hg hat
           rw [← Ny314.out] at ho
           have n0_ := am (Mk.R_after (ok := (fun _ => True)) (by (with_reducible repeat (first | apply Mk.R_alloc | apply Mk.R_drewN | apply Mk.R_drew)); exact HO_7.out) hg hat)
           have n1_ := am (IsS83.grown (ri83 HI0) hg (IsS83.own_ne HI0.out HO310.out (by decide)))
           have n2_ := am (below_weaken (rbi83 HB HI0 IsS83.ge) HL.out hb)
           have n3_ := am (KeepBut.trans (rkk HK) (KeepBut.of_grown hg g) (Kd.R_base2 HO310.out))
           have n4_ := am ((show Kd.C (Kd.int .u8) w75 Ao65 y304.length y304 from by rw [Ny304.out]; exact Kd.C_take (m := (t271 : Int).toNat) ((Mk.R_reads' (Mk.R_after (ok := (fun _ => True)) (by (with_reducible repeat (first | apply Mk.R_alloc | apply Mk.R_drewN | apply Mk.R_drew)); exact HO_7.out) hg hat)).2.2) KL69.out))
           have n5_ := am ((show Kd.C (Kd.int .u8) w75 A70 y317.length y317 from by rw [Ny317.out, KA70.out]; exact Kd.C_drop (m := (t271 : Int).toNat) (c := co65) ((Mk.R_reads' (Mk.R_after (ok := (fun _ => True)) (by (with_reducible repeat (first | apply Mk.R_alloc | apply Mk.R_drewN | apply Mk.R_drew)); exact HO_7.out) hg hat)).2.2) KL70.out ((Mk.R_reads' (Mk.R_after (ok := (fun _ => True)) (by (with_reducible repeat (first | apply Mk.R_alloc | apply Mk.R_drewN | apply Mk.R_drew)); exact HO_7.out) hg hat)).2.1)))
           have n6_ := am (ho)
           clear HO_7
           clear HI0
           clear HB
           clear HK
           clear HR307
           clear HR320
           clear HO310
           have HO_7 := n0_
           have HI0 := n1_
           have HB := n2_
           have HK := n3_
           have HR307 := n4_
           have HR320 := n5_
           have HO316 := n6_
           clear n0_ n1_ n2_ n3_ n4_ n5_ n6_
           clear ho hb hg hat
           refine hK.out _ _ trivial (fun hHeld => ?_)
           clear hK K
           refine norm_ (a' := ?_) ?_ ?_
           rotate_left
           ·show Act.put _ (some 71) _ = _
            simp only [Act.put, List.setIfInBounds_toArray, List.set_cons_zero, List.set_cons_succ, i64_w, i32_w]
            rfl
           refine one_ (i := 16) (N := some 75) (bm 18 131071) rfl rfl (one_of HT_.out (by kernel_rfl)) (by decide) (fun K hK => ?_)
           refine Kd.R_append_rows_step (Kd.int .u8) w.heap.size (by rfl) (.tmp 71) (.tmp 74) 22 5 (.int .u8 0) 1 rfl Tryd.underlying22 info5 rfl (by decide) (by omega) v315 y314 y317 _ _ _ (fun k_ => some k_ ≠ (.slice Ao65 x7_1.length co65 : Value).ownBlock) (fun _ => False) rfl rfl ?aO ?aR (fun _ _ h => h) (fun _ h => h.elim) ?aF (Below.refl _ _) ?aS ?aL ?_
           (case aR => repeat (first | exact (by repeat (first | (with_reducible exact HR320.out) | (with_reducible refine Kd.C_alloc ?_ _) | (with_reducible refine Kd.C_drewN ?_ _) | (with_reducible refine Kd.C_drew ?_) | exact HR320.out)) | (with_reducible refine Kd.C_alloc ?_ _) | (with_reducible refine Kd.C_drewN ?_ _) | (with_reducible refine Kd.C_drew ?_)))
           (case aF => exact (fun k_ hk => Kd.fresh' (Mk.R_lt (by (with_reducible repeat (first | apply Mk.R_alloc | apply Mk.R_drewN | apply Mk.R_drew)); exact HO_7.out)) k_ hk))
           (case aO => exact (rr HO316))
           (case aS => exact (keep_size (w := w) (g := g) (row := none) (rkk HK)))
           (case aL => have := LMc64.out; omega)
           intro v322 w76 ho hb hg hat
           rw [← Ny321.out] at ho
           have n0_ := am (Mk.R_after (ok := (fun _ => True)) (by (with_reducible repeat (first | apply Mk.R_alloc | apply Mk.R_drewN | apply Mk.R_drew)); exact HO_7.out) hg hat)
           have n1_ := am (IsS83.grown (ri83 HI0) hg (IsS83.own_ne HI0.out HO316.out (by decide)))
           have n2_ := am (below_weaken (rbi83 HB HI0 IsS83.ge) HL.out hb)
           have n3_ := am (KeepBut.trans (rkk HK) (KeepBut.of_grown hg g) (Kd.R_base2 HO316.out))
           have n4_ := am ((show Kd.C (Kd.int .u8) w76 Ao65 y304.length y304 from by rw [Ny304.out]; exact Kd.C_take (m := (t271 : Int).toNat) ((Mk.R_reads' (Mk.R_after (ok := (fun _ => True)) (by (with_reducible repeat (first | apply Mk.R_alloc | apply Mk.R_drewN | apply Mk.R_drew)); exact HO_7.out) hg hat)).2.2) KL69.out))
           have n5_ := am ((show Kd.C (Kd.int .u8) w76 A70 y317.length y317 from by rw [Ny317.out, KA70.out]; exact Kd.C_drop (m := (t271 : Int).toNat) (c := co65) ((Mk.R_reads' (Mk.R_after (ok := (fun _ => True)) (by (with_reducible repeat (first | apply Mk.R_alloc | apply Mk.R_drewN | apply Mk.R_drew)); exact HO_7.out) hg hat)).2.2) KL70.out ((Mk.R_reads' (Mk.R_after (ok := (fun _ => True)) (by (with_reducible repeat (first | apply Mk.R_alloc | apply Mk.R_drewN | apply Mk.R_drew)); exact HO_7.out) hg hat)).2.1)))
           have n6_ := am (ho)
           clear HO_7
           clear HI0
           clear HB
           clear HK
           clear HR307
           clear HR320
           clear HO316
           have HO_7 := n0_
           have HI0 := n1_
           have HB := n2_
           have HK := n3_
           have HR307 := n4_
           have HR320 := n5_
           have HO323 := n6_
           clear n0_ n1_ n2_ n3_ n4_ n5_ n6_
           clear ho hb hg hat
           refine hK.out _ _ trivial (fun hHeld => ?_)
           clear hK K
           refine norm_ (a' := ?_) ?_ ?_
           rotate_left
           ·show Act.put _ (some 75) _ = _
            simp only [Act.put, List.setIfInBounds_toArray, List.set_cons_zero, List.set_cons_succ, i64_w, i32_w]
            rfl
           refine pu_ 17 7 (bm 18 262143) HT_.out ?_
           refine done_ (done_of HT_.out (by kernel_rfl)) ?_
           try go_wp2
           go_roundg kj7
           case measure => have := HK1.out; have := HJ7.out; omega
           case rel => exact ⟨(y321), (wrap64 (x8_1 - 1)), (t312), (t313), (by first | rfl | (simp; done) | (simp [*]; done)), H', ⟨by have := HK1.out; have := HJ7.out; omega⟩, ⟨Mk.of_R (by (with_reducible repeat (first | apply r1 | apply r2 | apply r3)); exact Kd.R_mono HO323.out (fun _ hk => trivial))⟩, ⟨ri83 HI0⟩, ⟨rkk HK⟩, ⟨rbi83 HB HI0 IsS83.ge⟩⟩
         case' g21n =>
          rw [if_neg c53] at H
          have c53b0 : (t274 == 3) = false := beq_eq_false_iff_ne.mpr c53
          have c53b1 : (t274 != 3) = true := bne_iff_ne.mpr c53
          have H' := am H
          clear H
          obtain ⟨Ao77, co77, eo77⟩ := Mk.R_slice HO_7.out
          subst eo77
          have lf9_ := trivial
         all_goals
          go_wp2_with (first | ((with_reducible refine gate_callee (f := 53) rfl ?_); refine gl_ (some 26) Tryd.func53 #[.pointer (some ⟨g, 0, none⟩), .int .i64 (x7_1.length : Int)] ?_; (with_reducible refine (spec_l1Below.calls g s0_0 x1001_1 x1002_1 (x7_1.length : Int) t271 t272 t273 w0 _ ?side1 ?side2 A12.out).mono ?_); (case side1 => exact ri83 HI0); (case side2 => exact rbi83 HB HI0 IsS83.ge); rintro e w78 ⟨rfl, hi, hb, hk⟩; refine ⟨_, rfl, ?_⟩; have n0_ := am (Mk.R_mono (Mk.R_keep (IsS83.apartM (show IsS83 w0 _ g s0_0 x1001_1 x1002_1 from ri83 HI0) (by (with_reducible repeat (first | apply Mk.R_alloc | apply Mk.R_drewN | apply Mk.R_drew)); exact HO_7.out) (by decide)) hk (fun _ h => h.2)) (fun _ h => h.1)); have n1_ := am (KeepBut.trans (rkk HK) hk (.inl rfl)); have n2_ := am (hb); have n3_ := am (hi); clear HO_7; clear HK; clear HB; clear HI0; have HO_7 := n0_; have HK := n1_; have HB := n2_; have HI0 := n3_; clear n0_ n1_ n2_ n3_; (try clear hb); (try clear hb2); (try clear hk); (try clear hi)) | ((with_reducible refine gate_callee (f := 53) rfl ?_); refine gl_ (some 28) Tryd.func53 #[.pointer (some ⟨g, 0, none⟩), .int .i64 4] ?_; (with_reducible refine (spec_l1Below.calls g s0_0 t272 t273 4 t274 t275 t276 w0 _ ?side1 ?side2 A13.out).mono ?_); (case side1 => exact ri83 HI0); (case side2 => exact rbi83 HB HI0 IsS83.ge); rintro e w79 ⟨rfl, hi, hb, hk⟩; refine ⟨_, rfl, ?_⟩; have n0_ := am (Mk.R_mono (Mk.R_keep (IsS83.apartM (show IsS83 w0 _ g s0_0 t272 t273 from ri83 HI0) (by (with_reducible repeat (first | apply Mk.R_alloc | apply Mk.R_drewN | apply Mk.R_drew)); exact HO_7.out) (by decide)) hk (fun _ h => h.2)) (fun _ h => h.1)); have n1_ := am (KeepBut.trans (rkk HK) hk (.inl rfl)); have n2_ := am (hb); have n3_ := am (hi); clear HO_7; clear HK; clear HB; clear HI0; have HO_7 := n0_; have HK := n1_; have HB := n2_; have HI0 := n3_; clear n0_ n1_ n2_ n3_; (try clear hb); (try clear hb2); (try clear hk); (try clear hi)))
          go_roundg kj7
          case measure => have := HK1.out; have := HJ7.out; omega
          case rel => exact ⟨(x7_1), (wrap64 (x8_1 - 1)), (t275), (t276), (by first | rfl | (simp; done) | (simp [*]; done)), H', ⟨by have := HK1.out; have := HJ7.out; omega⟩, ⟨by (with_reducible repeat (first | apply Mk.R_alloc | apply Mk.R_drewN | apply Mk.R_drew)); exact HO_7.out⟩, ⟨ri83 HI0⟩, ⟨rkk HK⟩, ⟨rbi83 HB HI0 IsS83.ge⟩⟩
        all_goals
         try go_wp2_with (first | ((with_reducible refine gate_callee (f := 53) rfl ?_); refine gl_ (some 26) Tryd.func53 #[.pointer (some ⟨g, 0, none⟩), .int .i64 (x7_1.length : Int)] ?_; (with_reducible refine (spec_l1Below.calls g s0_0 x1001_1 x1002_1 (x7_1.length : Int) t271 t272 t273 w0 _ ?side1 ?side2 A12.out).mono ?_); (case side1 => exact ri83 HI0); (case side2 => exact rbi83 HB HI0 IsS83.ge); rintro e w44 ⟨rfl, hi, hb, hk⟩; refine ⟨_, rfl, ?_⟩; have n0_ := am (Mk.R_mono (Mk.R_keep (IsS83.apartM (show IsS83 w0 _ g s0_0 x1001_1 x1002_1 from ri83 HI0) (by (with_reducible repeat (first | apply Mk.R_alloc | apply Mk.R_drewN | apply Mk.R_drew)); exact HO_7.out) (by decide)) hk (fun _ h => h.2)) (fun _ h => h.1)); have n1_ := am (KeepBut.trans (rkk HK) hk (.inl rfl)); have n2_ := am (hb); have n3_ := am (hi); clear HO_7; clear HK; clear HB; clear HI0; have HO_7 := n0_; have HK := n1_; have HB := n2_; have HI0 := n3_; clear n0_ n1_ n2_ n3_; (try clear hb); (try clear hb2); (try clear hk); (try clear hi)) | ((with_reducible refine gate_callee (f := 53) rfl ?_); refine gl_ (some 28) Tryd.func53 #[.pointer (some ⟨g, 0, none⟩), .int .i64 4] ?_; (with_reducible refine (spec_l1Below.calls g s0_0 t272 t273 4 t274 t275 t276 w0 _ ?side1 ?side2 A13.out).mono ?_); (case side1 => exact ri83 HI0); (case side2 => exact rbi83 HB HI0 IsS83.ge); rintro e w45 ⟨rfl, hi, hb, hk⟩; refine ⟨_, rfl, ?_⟩; have n0_ := am (Mk.R_mono (Mk.R_keep (IsS83.apartM (show IsS83 w0 _ g s0_0 t272 t273 from ri83 HI0) (by (with_reducible repeat (first | apply Mk.R_alloc | apply Mk.R_drewN | apply Mk.R_drew)); exact HO_7.out) (by decide)) hk (fun _ h => h.2)) (fun _ h => h.1)); have n1_ := am (KeepBut.trans (rkk HK) hk (.inl rfl)); have n2_ := am (hb); have n3_ := am (hi); clear HO_7; clear HK; clear HB; clear HI0; have HO_7 := n0_; have HK := n1_; have HB := n2_; have HI0 := n3_; clear n0_ n1_ n2_ n3_; (try clear hb); (try clear hb2); (try clear hk); (try clear hi)))
         have n0_ := am (Mk.R_drew HO_7.out)
         have n1_ := am (IsS83.drew HI0.out)
         have n2_ := am (keep_drew HK.out)
         have n3_ := am (below_drew1 HB.out)
         clear HO_7
         clear HI0
         clear HK
         clear HB
         have HO_7 := n0_
         have HI0 := n1_
         have HK := n2_
         have HB := n3_
         clear n0_ n1_ n2_ n3_
         have q47 : (t271 : Int) ≤ ((x7_1.length : Int) : Int) := dt_
         obtain ⟨i047, hi047, _, hsz47, _⟩ := info_parts info5
         have hroom47 : x7_1.length ≤ co43 := (Mk.R_reads' HO_7.out).2.1
         have hC47 : Kd.C (Kd.int .u8) _ Ao43 x7_1.length x7_1 := (Mk.R_reads' HO_7.out).2.2
         have hcut47 := cut_to (P := Tryd.prog) 22 5 .i64 Tryd.underlying22 hi047 Ao43 x7_1.length co43 t271 dt_ q47 hroom47
         have hr47 := Kd.C_take (m := (t271 : Int).toNat) hC47 (by omega)
         have hy47 : y287.length = (t271 : Int).toNat := (by rw [Ny287.out, List.length_take]; omega)
         rw [← Ny287.out] at hr47
         rw [← hy47] at hcut47
         have HR290 := am hr47
         have HC290 := am (show y287.length ≤ co43 from by omega)
         clear hr47 hC47 hroom47 hi047 hsz47
         have KY47 := am hy47
         clear hy47
         have KL47 := am (show (t271 : Int).toNat ≤ x7_1.length from by omega)
         replace q47 := eq_true q47
         have q48 : ((ji39) : Int) ≤ ((x7_1.length : Int) : Int) := dt_
         obtain ⟨i048, hi048, _, hsz48, _⟩ := info_parts info5
         have hroom48 : x7_1.length ≤ co43 := (Mk.R_reads' HO_7.out).2.1
         have hC48 : Kd.C (Kd.int .u8) _ Ao43 x7_1.length x7_1 := (Mk.R_reads' HO_7.out).2.2
         have q048 : (0 : Int) ≤ ((ji39) : Int) := dt_
         have hcut48 := cut_from (P := Tryd.prog) 22 5 .i64 Tryd.underlying22 hi048 1 hsz48 Ao43 x7_1.length co43 (ji39) q048 q48
         have hr48 := Kd.C_drop (m := ((ji39) : Int).toNat) (c := co43) hC48 (by omega) hroom48
         obtain ⟨A48, hA48⟩ : ∃ A1, A1 = (if co43 = ((ji39) : Int).toNat then Ao43 else (Ao43 : Option Addr).map (·.add (((ji39) : Int).toNat * 1))) := ⟨_, rfl⟩
         obtain ⟨c48, hc48⟩ : ∃ c1, c1 = co43 - ((ji39) : Int).toNat := ⟨_, rfl⟩
         have hy48 : y294.length = x7_1.length - ((ji39) : Int).toNat := (by rw [Ny294.out, List.length_drop] <;> omega)
         rw [show (x7_1).drop ((ji39) : Int).toNat = y294 from Ny294.out.symm] at hr48
         replace hr48 : Kd.C (Kd.int .u8) _ A48 y294.length y294 := (by rw [hA48]; exact hr48)
         rw [← hy48, ← hA48, ← hc48] at hcut48
         have HR297 := am hr48
         have HC297 := am (show y294.length ≤ c48 from by rw [hy48, hc48]; exact Nat.sub_le_sub_right hroom48 _)
         clear hr48 hC48 hroom48 hi048 hsz48 hc48
         have KY48 := am hy48
         have KA48 := am hA48
         clear hy48 hA48
         have KL48 := am (show ((ji39) : Int).toNat ≤ x7_1.length from by omega)
         replace q48 := eq_true q48
         refine start_ (n := 11) (S := fun w' => True) (ds := []) (bm 11 0) (by kernel_rfl) rfl rfl trivial (fun hHeld => ?_); refine with_tabW spec_l13Bend.tab12 spec_l13Bend.bits12 (fun HT_ HW_ => ?_)
         generalize w45.drew = w46 at HO_7 HI0 HK HB HR290 HR297 hHeld ⊢
         refine pu_ 1 48 (bm 11 2) HT_.out ?_
         refine pu_ 2 49 (bm 11 6) HT_.out ?_
         refine pu_ 3 50 (bm 11 14) HT_.out ?_
         refine pu_ 5 52 (bm 11 46) HT_.out ?_
         refine pu_ 6 53 (bm 11 110) HT_.out ?_
         refine pu_ 7 54 (bm 11 238) HT_.out ?_
         refine pu_ 8 55 (bm 11 494) HT_.out ?_
         refine one_ (i := 0) (N := some 47) (bm 11 495) rfl rfl (one_of HT_.out (by kernel_rfl)) (by decide) (fun K hK => ?_)
         refine Kd.R_lit_step (Kd.int .u8) _ 5 ?hg (N := 47) ?hd (xs := ([] : List Int)) (inner := []) (ok := fun _ => True) (okp := fun _ => True) ?hr ?hp (fun _ hk => hk) trivial (Below.refl _ _) (Nat.le_refl _) (by simp) ?_; (case hd => rfl); (case hg => rfl); (case hr => first | (go_simp; done) | (go_simp; rfl)); (case hp => exact (Reps.none _ _))
         intro v285 w49 ho50 hb hg_ hnew_
         clear hg_ hnew_
         (first | rw [← Ny284.out] at ho50 | (simp only [Int.reduceToNat] at ho50; rw [← Ny284.out] at ho50))
         have n0_ := am (Mk.R_elder' (by (with_reducible repeat (first | apply Mk.R_alloc | apply Mk.R_drewN | apply Mk.R_drew)); exact HO_7.out) (Kd.R_base ho50) hb)
         have n1_ := am (Kd.R_lower (Kd.R_new' ho50 (Mk.R_lt (by (with_reducible repeat (first | apply Mk.R_alloc | apply Mk.R_drewN | apply Mk.R_drew)); exact HO_7.out))) (keep_size (w := w) (g := g) (row := none) (rkk HK)))
         have n2_ := am (IsS83.below (ri83 HI0) hb)
         have n3_ := am (Kd.C_below (by repeat (first | (with_reducible exact HR290.out) | (with_reducible refine Kd.C_alloc ?_ _) | (with_reducible refine Kd.C_drewN ?_ _) | (with_reducible refine Kd.C_drew ?_) | exact HR290.out)) hb)
         have n4_ := am (Kd.C_below (by repeat (first | (with_reducible exact HR297.out) | (with_reducible refine Kd.C_alloc ?_ _) | (with_reducible refine Kd.C_drewN ?_ _) | (with_reducible refine Kd.C_drew ?_) | exact HR297.out)) hb)
         have n5_ := am (KeepBut.trans (rkk HK) (KeepBut.of_below hb g none) (.inl rfl))
         have n6_ := am (below_step (rbi83 HB HI0 IsS83.ge) hb)
         clear HO_7
         clear HI0
         clear HR290
         clear HR297
         clear HK
         clear HB
         have HO_7 := n0_
         have HO286 := n1_
         have HI0 := n2_
         have HR290 := n3_
         have HR297 := n4_
         have HK := n5_
         have HB := n6_
         clear n0_ n1_ n2_ n3_ n4_ n5_ n6_
         clear hb ho50
         refine hK.out _ _ trivial (fun hHeld => ?_)
         clear hK K
         refine norm_ (a' := ?_) ?_ ?_
         rotate_left
         ·show Act.put _ (some 47) _ = _
          simp only [Act.put, List.setIfInBounds_toArray, List.set_cons_zero, List.set_cons_succ, i64_w, i32_w]
          rfl
         refine one_ (i := 4) (N := some 51) (bm 11 511) rfl rfl (one_of HT_.out (by kernel_rfl)) (by decide) (fun K hK => ?_)
         refine Kd.R_append_rows_step (Kd.int .u8) w.heap.size (by rfl) (.tmp 47) (.tmp 50) 22 5 (.int .u8 0) 1 rfl Tryd.underlying22 info5 rfl (by decide) (by omega) v285 y284 y287 _ _ _ (fun k_ => some k_ ≠ (.slice Ao43 x7_1.length co43 : Value).ownBlock) (fun _ => False) rfl rfl ?aO ?aR (fun _ _ h => h) (fun _ h => h.elim) ?aF (Below.refl _ _) ?aS ?aL ?_
         (case aR => repeat (first | exact (by repeat (first | (with_reducible exact HR290.out) | (with_reducible refine Kd.C_alloc ?_ _) | (with_reducible refine Kd.C_drewN ?_ _) | (with_reducible refine Kd.C_drew ?_) | exact HR290.out)) | (with_reducible refine Kd.C_alloc ?_ _) | (with_reducible refine Kd.C_drewN ?_ _) | (with_reducible refine Kd.C_drew ?_)))
         (case aF => exact (fun k_ hk => Kd.fresh' (Mk.R_lt (by (with_reducible repeat (first | apply Mk.R_alloc | apply Mk.R_drewN | apply Mk.R_drew)); exact HO_7.out)) k_ hk))
         (case aO => exact (by (with_reducible repeat (first | apply r1 | apply r2 | apply r3)); exact Kd.R_mono HO286.out (fun _ hk => hk.2)))
         (case aS => exact (keep_size (w := w) (g := g) (row := none) (rkk HK)))
         (case aL => have := LMc38.out; omega)
         intro v292 w51 ho hb hg hat
         rw [← Ny291.out] at ho
         have n0_ := am (Mk.R_after (ok := (fun _ => True)) (by (with_reducible repeat (first | apply Mk.R_alloc | apply Mk.R_drewN | apply Mk.R_drew)); exact HO_7.out) hg hat)
         have n1_ := am (IsS83.grown (ri83 HI0) hg (IsS83.own_ne HI0.out HO286.out (by decide)))
         have n2_ := am (below_weaken (rbi83 HB HI0 IsS83.ge) HL.out hb)
         have n3_ := am (KeepBut.trans (rkk HK) (KeepBut.of_grown hg g) (Kd.R_base2 HO286.out))
         have n4_ := am ((show Kd.C (Kd.int .u8) w51 Ao43 y287.length y287 from by rw [Ny287.out]; exact Kd.C_take (m := (t271 : Int).toNat) ((Mk.R_reads' (Mk.R_after (ok := (fun _ => True)) (by (with_reducible repeat (first | apply Mk.R_alloc | apply Mk.R_drewN | apply Mk.R_drew)); exact HO_7.out) hg hat)).2.2) KL47.out))
         have n5_ := am ((show Kd.C (Kd.int .u8) w51 A48 y294.length y294 from by rw [Ny294.out, KA48.out]; exact Kd.C_drop (m := ((ji39) : Int).toNat) (c := co43) ((Mk.R_reads' (Mk.R_after (ok := (fun _ => True)) (by (with_reducible repeat (first | apply Mk.R_alloc | apply Mk.R_drewN | apply Mk.R_drew)); exact HO_7.out) hg hat)).2.2) KL48.out ((Mk.R_reads' (Mk.R_after (ok := (fun _ => True)) (by (with_reducible repeat (first | apply Mk.R_alloc | apply Mk.R_drewN | apply Mk.R_drew)); exact HO_7.out) hg hat)).2.1)))
         have n6_ := am (ho)
         clear HO_7
         clear HI0
         clear HB
         clear HK
         clear HR290
         clear HR297
         clear HO286
         have HO_7 := n0_
         have HI0 := n1_
         have HB := n2_
         have HK := n3_
         have HR290 := n4_
         have HR297 := n5_
         have HO293 := n6_
         clear n0_ n1_ n2_ n3_ n4_ n5_ n6_
         clear ho hb hg hat
         refine hK.out _ _ trivial (fun hHeld => ?_)
         clear hK K
         refine norm_ (a' := ?_) ?_ ?_
         rotate_left
         ·show Act.put _ (some 51) _ = _
          simp only [Act.put, List.setIfInBounds_toArray, List.set_cons_zero, List.set_cons_succ, i64_w, i32_w]
          rfl
         refine one_ (i := 9) (N := some 56) (bm 11 1023) rfl rfl (one_of HT_.out (by kernel_rfl)) (by decide) (fun K hK => ?_)
         refine Kd.R_append_rows_step (Kd.int .u8) w.heap.size (by rfl) (.tmp 51) (.tmp 55) 22 5 (.int .u8 0) 1 rfl Tryd.underlying22 info5 rfl (by decide) (by omega) v292 y291 y294 _ _ _ (fun k_ => some k_ ≠ (.slice Ao43 x7_1.length co43 : Value).ownBlock) (fun _ => False) rfl rfl ?aO ?aR (fun _ _ h => h) (fun _ h => h.elim) ?aF (Below.refl _ _) ?aS ?aL ?_
         (case aR => repeat (first | exact (by repeat (first | (with_reducible exact HR297.out) | (with_reducible refine Kd.C_alloc ?_ _) | (with_reducible refine Kd.C_drewN ?_ _) | (with_reducible refine Kd.C_drew ?_) | exact HR297.out)) | (with_reducible refine Kd.C_alloc ?_ _) | (with_reducible refine Kd.C_drewN ?_ _) | (with_reducible refine Kd.C_drew ?_)))
         (case aF => exact (fun k_ hk => Kd.fresh' (Mk.R_lt (by (with_reducible repeat (first | apply Mk.R_alloc | apply Mk.R_drewN | apply Mk.R_drew)); exact HO_7.out)) k_ hk))
         (case aO => exact (rr HO293))
         (case aS => exact (keep_size (w := w) (g := g) (row := none) (rkk HK)))
         (case aL => have := LMc42.out; omega)
         intro v299 w52 ho hb hg hat
         rw [← Ny298.out] at ho
         have n0_ := am (Mk.R_after (ok := (fun _ => True)) (by (with_reducible repeat (first | apply Mk.R_alloc | apply Mk.R_drewN | apply Mk.R_drew)); exact HO_7.out) hg hat)
         have n1_ := am (IsS83.grown (ri83 HI0) hg (IsS83.own_ne HI0.out HO293.out (by decide)))
         have n2_ := am (below_weaken (rbi83 HB HI0 IsS83.ge) HL.out hb)
         have n3_ := am (KeepBut.trans (rkk HK) (KeepBut.of_grown hg g) (Kd.R_base2 HO293.out))
         have n4_ := am ((show Kd.C (Kd.int .u8) w52 Ao43 y287.length y287 from by rw [Ny287.out]; exact Kd.C_take (m := (t271 : Int).toNat) ((Mk.R_reads' (Mk.R_after (ok := (fun _ => True)) (by (with_reducible repeat (first | apply Mk.R_alloc | apply Mk.R_drewN | apply Mk.R_drew)); exact HO_7.out) hg hat)).2.2) KL47.out))
         have n5_ := am ((show Kd.C (Kd.int .u8) w52 A48 y294.length y294 from by rw [Ny294.out, KA48.out]; exact Kd.C_drop (m := ((ji39) : Int).toNat) (c := co43) ((Mk.R_reads' (Mk.R_after (ok := (fun _ => True)) (by (with_reducible repeat (first | apply Mk.R_alloc | apply Mk.R_drewN | apply Mk.R_drew)); exact HO_7.out) hg hat)).2.2) KL48.out ((Mk.R_reads' (Mk.R_after (ok := (fun _ => True)) (by (with_reducible repeat (first | apply Mk.R_alloc | apply Mk.R_drewN | apply Mk.R_drew)); exact HO_7.out) hg hat)).2.1)))
         have n6_ := am (ho)
         clear HO_7
         clear HI0
         clear HB
         clear HK
         clear HR290
         clear HR297
         clear HO293
         have HO_7 := n0_
         have HI0 := n1_
         have HB := n2_
         have HK := n3_
         have HR290 := n4_
         have HR297 := n5_
         have HO300 := n6_
         clear n0_ n1_ n2_ n3_ n4_ n5_ n6_
         clear ho hb hg hat
         refine hK.out _ _ trivial (fun hHeld => ?_)
         clear hK K
         refine norm_ (a' := ?_) ?_ ?_
         rotate_left
         ·show Act.put _ (some 56) _ = _
          simp only [Act.put, List.setIfInBounds_toArray, List.set_cons_zero, List.set_cons_succ, i64_w, i32_w]
          rfl
         refine pu_ 10 7 (bm 11 2047) HT_.out ?_
         refine done_ (done_of HT_.out (by kernel_rfl)) ?_
         try go_wp2
         go_roundg kj7
         case measure => have := HK1.out; have := HJ7.out; omega
         case rel => exact ⟨(y298), (wrap64 (x8_1 - 1)), (t275), (t276), (by first | rfl | (simp; done) | (simp [*]; done)), H', ⟨by have := HK1.out; have := HJ7.out; omega⟩, ⟨Mk.of_R (by (with_reducible repeat (first | apply r1 | apply r2 | apply r3)); exact Kd.R_mono HO300.out (fun _ hk => trivial))⟩, ⟨ri83 HI0⟩, ⟨rkk HK⟩, ⟨rbi83 HB HI0 IsS83.ge⟩⟩
      all_goals
       go_wp2_with (first | ((with_reducible refine gate_callee (f := 53) rfl ?_); refine gl_ (some 26) Tryd.func53 #[.pointer (some ⟨g, 0, none⟩), .int .i64 (x7_1.length : Int)] ?_; (with_reducible refine (spec_l1Below.calls g s0_0 x1001_1 x1002_1 (x7_1.length : Int) t271 t272 t273 w0 _ ?side1 ?side2 A12.out).mono ?_); (case side1 => exact ri83 HI0); (case side2 => exact rbi83 HB HI0 IsS83.ge); rintro e w23 ⟨rfl, hi, hb, hk⟩; refine ⟨_, rfl, ?_⟩; have n0_ := am (Mk.R_mono (Mk.R_keep (IsS83.apartM (show IsS83 w0 _ g s0_0 x1001_1 x1002_1 from ri83 HI0) (by (with_reducible repeat (first | apply Mk.R_alloc | apply Mk.R_drewN | apply Mk.R_drew)); exact HO_7.out) (by decide)) hk (fun _ h => h.2)) (fun _ h => h.1)); have n1_ := am (KeepBut.trans (rkk HK) hk (.inl rfl)); have n2_ := am (hb); have n3_ := am (hi); clear HO_7; clear HK; clear HB; clear HI0; have HO_7 := n0_; have HK := n1_; have HB := n2_; have HI0 := n3_; clear n0_ n1_ n2_ n3_; (try clear hb); (try clear hb2); (try clear hk); (try clear hi)) | ((with_reducible refine gate_callee (f := 53) rfl ?_); refine gl_ (some 28) Tryd.func53 #[.pointer (some ⟨g, 0, none⟩), .int .i64 4] ?_; (with_reducible refine (spec_l1Below.calls g s0_0 t272 t273 4 t274 t275 t276 w0 _ ?side1 ?side2 A13.out).mono ?_); (case side1 => exact ri83 HI0); (case side2 => exact rbi83 HB HI0 IsS83.ge); rintro e w24 ⟨rfl, hi, hb, hk⟩; refine ⟨_, rfl, ?_⟩; have n0_ := am (Mk.R_mono (Mk.R_keep (IsS83.apartM (show IsS83 w0 _ g s0_0 t272 t273 from ri83 HI0) (by (with_reducible repeat (first | apply Mk.R_alloc | apply Mk.R_drewN | apply Mk.R_drew)); exact HO_7.out) (by decide)) hk (fun _ h => h.2)) (fun _ h => h.1)); have n1_ := am (KeepBut.trans (rkk HK) hk (.inl rfl)); have n2_ := am (hb); have n3_ := am (hi); clear HO_7; clear HK; clear HB; clear HI0; have HO_7 := n0_; have HK := n1_; have HB := n2_; have HI0 := n3_; clear n0_ n1_ n2_ n3_; (try clear hb); (try clear hb2); (try clear hk); (try clear hi)) | ((with_reducible refine gate_callee (f := 53) rfl ?_); refine gl_ (some 37) Tryd.func53 #[.pointer (some ⟨g, 0, none⟩), .int .i64 (a2.size : Int)] ?_; (with_reducible refine (spec_l1Below.calls g s0_0 t275 t276 (a2.size : Int) t277 t278 t279 w0 _ ?side1 ?side2 A15.out).mono ?_); (case side1 => exact ri83 HI0); (case side2 => exact rbi83 HB HI0 IsS83.ge); rintro e w25 ⟨rfl, hi, hb, hk⟩; refine ⟨_, rfl, ?_⟩; have n0_ := am (Mk.R_mono (Mk.R_keep (IsS83.apartM (show IsS83 w0 _ g s0_0 t275 t276 from ri83 HI0) (by (with_reducible repeat (first | apply Mk.R_alloc | apply Mk.R_drewN | apply Mk.R_drew)); exact HO_7.out) (by decide)) hk (fun _ h => h.2)) (fun _ h => h.1)); have n1_ := am (KeepBut.trans (rkk HK) hk (.inl rfl)); have n2_ := am (hb); have n3_ := am (hi); clear HO_7; clear HK; clear HB; clear HI0; have HO_7 := n0_; have HK := n1_; have HB := n2_; have HI0 := n3_; clear n0_ n1_ n2_ n3_; (try clear hb); (try clear hb2); (try clear hk); (try clear hi); have p18 : 0 ≤ (t277 : Int) := dt_; have q18 : t277 < (a2.size : Int) := dt_; have hx18 := bt_at a2 t277; replace p18 := eq_true p18; replace q18 := eq_true q18; have p21 : 0 ≤ (t271 : Int) := dt_; have q21 : (t271 : Int) < ((x7_1.length : Int) : Int) := dt_; obtain ⟨go21, co21, eo21, gb21, gl21, cl21, HG21⟩ := Mk.R_form HO_7.out (by omega); (first | cases eo21 | (injection eo21 with ea_ en_ ec_; (first | subst ea_ | (injection ea_ with ea_; subst ea_)); subst ec_; clear en_)); have GB21 := am gb21; have GG21 := am HG21; clear gb21 gl21 HG21; obtain ⟨hx21_0, hf21_0⟩ := Mk.R_celln 0 HO_7.out (t271 : Int) p21 q21; replace p21 := eq_true p21; replace q21 := eq_true q21; obtain ⟨hy26_, hz26_⟩ := Mk.R_celln 0 HO_7.out (t271 : Int) dt_ dt_; have HP26 := Mk.R_putg HO_7.out (t271 : Int) (bt a2 t277)) | ((with_reducible refine gate_store (t := 5) (p := 39) rfl ?_); refine store_event (t := 5) (p := 39) (v := ?vo_w27) (w1 := (w25.setCell ⟨go21, (t271 : Int).toNat, none⟩ (.int .u8 (bt a2 t277)))) ?hg ?ho ?hn ?hr ?_; (case ho => rfl); (case hg => rfl); (case hn => rfl); (case hr => first | (go_simp; done) | (go_simp; rfl)); intro w27 hw; have hg : w25.grownBy w27 (some go21) := (by rw [hw]; exact HP26.2); have hp_ : Mk.R 5 w27 w.heap.size (fun _ => True) (.slice (some ⟨go21, 0, none⟩) x7_1.length co22) y280 := (by rw [hw, Ny280.out]; exact HP26.1); clear HP26; have n0_ := am (hp_); have n1_ := am (IsS83.grown (ri83 HI0) hg (IsS83.own_neM HI0.out HO_7.out (by decide))); have n2_ := am ((by rw [hw]; exact below_set (HB.out) (Nat.le_trans HL.out GB21.out) : Below w0.heap.size w0 w27)); have n3_ := am (KeepBut.trans (rkk HK) (KeepBut.of_grown hg g) (Mk.R_base2 HO_7.out)); clear HO_7; clear HI0; clear HB; clear HK; have HO_7 := n0_; have HI0 := n1_; have HB := n2_; have HK := n3_; clear n0_ n1_ n2_ n3_; clear hg hw hp_))
       go_roundg kj7
       case measure => have := HK1.out; have := HJ7.out; omega
       case rel => exact ⟨(y280), (wrap64 (x8_1 - 1)), (t278), (t279), (by first | rfl | (simp; done) | (simp [*]; done)), H', ⟨by have := HK1.out; have := HJ7.out; omega⟩, ⟨by (with_reducible repeat (first | apply Mk.R_alloc | apply Mk.R_drewN | apply Mk.R_drew)); exact HO_7.out⟩, ⟨ri83 HI0⟩, ⟨rkk HK⟩, ⟨rbi83 HB HI0 IsS83.ge⟩⟩
     ·replace c11 := Bool.eq_false_iff.mpr c11
      subst c11
      rw [if_neg (show ¬ (false = true) by decide)] at H
      simp only [Option.some.injEq, Prod.mk.injEq] at H
      obtain ⟨rfl, rfl, rfl⟩ := H
      have hcv80 := Mk.own_string (P := Tryd.prog) Tryd.underlying22 Tryd.underlying5 Tryd.underlying9 HO_7.out
      go_wp2
      go_ret
      exact ⟨by first | rfl | (simp [errW_none, errW_some] <;> rfl) | (simp [*, errW_none, errW_some] <;> rfl), ri83 HI0, rbi83 HB HI0 IsS83.ge, rkk HK⟩

end Go.Proofs.YtfhkpneffmcdbaaDoor.QC
