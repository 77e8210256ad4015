/- Contracts of Go functions that laws of this seat reach: each Lean function answers as its Go function does. No condition. Written by wip/tools/inj.py, over the kit's print. -/
import Derived.Test.YtfhkpneffmcdbaaDoorQBx0
import Derived.Test.YtfhkpneffmcdbaaDoorQBx2
import Derived.Test.YtfhkpneffmcdbaaDoorQBx3
import Derived.Test.YtfhkpneffmcdbaaDoorQBx4
import Derived.Test.YtfhkpneffmcdbaaDoorQBx6
namespace Go.Proofs.YtfhkpneffmcdbaaDoor.QB
open Go.RowKit Go.Proofs.YtfhkpneffmcdbaaDoorW.PrintWords Go.Proofs.YtfhkpneffmcdbaaDoorW.PrintLast Go.Proofs.YtfhkpneffmcdbaaDoorW.PrintMore
attribute [local go_sem] max2_int min2_int max_two min_two max_three min_three max_four min_four   -- for this text's walks alone
set_option linter.unusedVariables false
set_option linter.unusedSimpArgs false

/-! ### spec_l1DrawBytes: function 64 -/
def spec_l1DrawBytes.l0 : Nat → List Int → Int → List Int → Int → Int → Option (ByteArray × Int × Int)
 | 0, _, _, _, _, _ => none
 | k + 1, x4, x5, x1000, x1001, x1002 => if x5 > 0 then ((spec_l1Byte.f x1000 x1001 x1002).bind fun bt280 => ((some (([128, 194, 228, 240, 255, 237, 160, 192, (bt280.1) % 256] : List Int) : List Int)).bind fun y283 => ((spec_l1Below.f x1000 bt280.2.1 bt280.2.2 9).bind fun bt286 => (if 0 ≤ bt286.1 then (if bt286.1 < (y283.length : Int) then (if x4.length < 140737488355328 then (spec_l1DrawBytes.l0 k (x4 ++ [rd y283 bt286.1]) (wrap64 (x5 - 1)) x1000 bt286.2.1 bt286.2.2) else (none)) else (none)) else (none))))) else (if (x4.length : Int) > 0 then ((spec_l1Once.f x1000 x1001 x1002 2).bind fun bt293 => (if bt293.1 = true then ((spec_l1Below.f x1000 bt293.2.1 bt293.2.2 (x4.length : Int)).bind fun bt296 => ((some (([] : List Int) : List Int)).bind fun y299 => (if 0 ≤ bt296.1 then (if bt296.1 ≤ (x4.length : Int) then ((some (x4.drop (bt296.1 : Int).toNat : List Int)).bind fun y302 => (if y299.length + y302.length < 140737488355328 then ((some (y299 ++ y302 : List Int)).bind fun y306 => ((some (x4.take (bt296.1 : Int).toNat : List Int)).bind fun y309 => (if y306.length + y309.length < 140737488355328 then (some (strOfNums (y306 ++ y309), bt296.2.1, bt296.2.2)) else (none)))) else (none))) else (none)) else (none)))) else (some (strOfNums x4, bt293.2.1, bt293.2.2)))) else (some (strOfNums x4, x1001, x1002)))
def spec_l1DrawBytes.f (k : Nat) (s0_0 : List Int) (s0_1 : Int) (s0_2 : Int) : Option (ByteArray × Int × Int) := (spec_l1DrawRunes.f k s0_0 s0_1 s0_2).bind fun bt265 => ((spec_Text.f k bt265.1).bind fun t270 => ((spec_l1Once.f s0_0 bt265.2.1 bt265.2.2 2).bind fun bt271 => (if bt271.1 = true then ((spec_bytesOf.f t270).bind fun t274 => ((spec_l1Below.f s0_0 bt271.2.1 bt271.2.2 3).bind fun bt277 => (spec_l1DrawBytes.l0 k t274 bt277.1 s0_0 bt277.2.1 bt277.2.2))) else (some (t270, bt271.2.1, bt271.2.2)))))
theorem spec_l1DrawBytes.mono_l : ∀ k, (∀ y0 y1 y2 y3 y4, LeO (spec_l1DrawBytes.l0 k y0 y1 y2 y3 y4) (spec_l1DrawBytes.l0 (k + 1) y0 y1 y2 y3 y4))
 | 0 => fun _ _ _ _ _ r h => by simp [spec_l1DrawBytes.l0] at h
 | k + 1 => by
  have ih0 := spec_l1DrawBytes.mono_l k
  ·intro y0 y1 y2 y3 y4
   unfold spec_l1DrawBytes.l0
   repeat' first
   | (with_reducible exact ih0 _ _ _ _ _)
   | (with_reducible exact spec_Text.mono _ _)
   | (with_reducible exact spec_l1DrawRunes.mono _ _ _ _)
   | (with_reducible exact LeO.refl _)
   | (with_reducible exact LeO.none _)
   | (with_reducible refine LeO.ite ?_ ?_)
   | (with_reducible refine LeO.bind ?_ (fun _ => ?_))
theorem spec_l1DrawBytes.mono : ∀ a0 a1 a2 k, LeO (spec_l1DrawBytes.f k a0 a1 a2) (spec_l1DrawBytes.f (k + 1) a0 a1 a2) := by
 intro a0 a1 a2 k
 have ih0 := spec_l1DrawBytes.mono_l k
 unfold spec_l1DrawBytes.f
 repeat' first
   | (with_reducible exact ih0 _ _ _ _ _)
   | (with_reducible exact spec_Text.mono _ _)
   | (with_reducible exact spec_l1DrawRunes.mono _ _ _ _)
   | (with_reducible exact LeO.refl _)
   | (with_reducible exact LeO.none _)
   | (with_reducible refine LeO.ite ?_ ?_)
   | (with_reducible refine LeO.bind ?_ (fun _ => ?_))
def spec_l1DrawBytes.T10 : Bool × List (List Nat × List Nat) := (true, [([], []), ([], []), ([], []), ([1, 2], [1, 2]), ([0, 3], [0, 3]), ([], []), ([], []), ([5, 6], [5, 6]), ([4, 7, 4], [4, 7]), ([8, 8, 0, 1, 2, 3, 4, 5, 6, 7, 8], [1, 5, 8])])
def spec_l1DrawBytes.B10 : List Nat := [0, 0, 0, 6, 15, 0, 0, 96, 255, 511]
theorem spec_l1DrawBytes.tab10 : rtab .any (opsOf Tryd.f64 10) = spec_l1DrawBytes.T10 := by kernel_rfl
theorem spec_l1DrawBytes.bits10 : waitsOk spec_l1DrawBytes.T10.2 spec_l1DrawBytes.B10 = true := by kernel_rfl
theorem IsS83.apartM {w0 W : World} {g : Nat} {f0 : List Int} {f1 : Int} {f2 : Int} {e : Nat} {base : Nat} {ok : Nat → Prop} {v : Value} {xs : List Int} (h : IsS83 w0 W g f0 f1 f2) (ho : Mk.R e W base ok v xs) (ht : e ≠ 83) : Mk.R e W base (fun k => ok k ∧ k ≠ g) v xs := by
 obtain ⟨A0, c0, hb, hg, hr0⟩ := h
 exact Mk.R_types ho hb ht
theorem IsS83.own_neM {w0 W : World} {g : Nat} {f0 : List Int} {f1 : Int} {f2 : Int} {e : Nat} {base : Nat} {ok : Nat → Prop} {v : Value} {xs : List Int} (h : IsS83 w0 W g f0 f1 f2) (ho : Mk.R e W base ok v xs) (ht : e ≠ 83) : some g ≠ v.ownBlock := by
 obtain ⟨A0, c0, hb, hg, hr0⟩ := h
 exact Mk.R_ne ho hb ht
set_option maxHeartbeats 8000000 in
set_option maxRecDepth 100000 in
theorem spec_l1DrawBytes.calls (k : Nat) (g : Nat) (s0_0 : List Int) (s0_1 : Int) (s0_2 : Int) (r1 : ByteArray) (r2 : Int) (r3 : Int) (w0 w : World) (hI : IsS83 w0 w g s0_0 s0_1 s0_2) (hB : Below w0.heap.size w0 w) (h : spec_l1DrawBytes.f k s0_0 s0_1 s0_2 = some (r1, r2, r3)) :
  Calls Tryd.prog 64 #[.pointer (some ⟨g, 0, none⟩)] w fun e w' => e = .returned (.string r1) ∧ IsS83 w0 w' g s0_0 r2 r3 ∧ Below w0.heap.size w0 w' ∧ KeepBut w w' g none := by
 have HI0 := am hI
 have HK := am (KeepBut.refl w g none)
 have HL := am hB.size
 clear hI
 have HW0 := am hB.size
 have HB := am hB
 clear hB
 have H := h
 unfold spec_l1DrawBytes.f at H
 clear h
 replace H := Option.bind_eq_some_iff.mp H
 obtain ⟨⟨t265, t268, t269⟩, A20, H⟩ := H
 (try dsimp only at H)
 have A2 := am A20
 clear A20
 replace H := Option.bind_eq_some_iff.mp H
 obtain ⟨t270, A30, H⟩ := H
 (try dsimp only at H)
 have A3 := am A30
 clear A30
 replace H := Option.bind_eq_some_iff.mp H
 obtain ⟨⟨t271, t272, t273⟩, A40, H⟩ := H
 (try dsimp only at H)
 have A4 := am A40
 clear A40
 refine em_ (p := t271 = true) (fun c5 => ?g0p) (fun c5 => ?g0n)
 case' g0p =>
  subst c5
  rw [if_pos rfl] at H
  replace H := Option.bind_eq_some_iff.mp H
  obtain ⟨t274, A60, H⟩ := H
  (try dsimp only at H)
  have A6 := am A60
  clear A60
  replace H := Option.bind_eq_some_iff.mp H
  obtain ⟨⟨t277, t278, t279⟩, A70, H⟩ := H
  (try dsimp only at H)
  have A7 := am A70
  clear A70
  have H' := am H
  clear H
  have lf1_ := trivial
 case' g0n =>
  replace c5 := Bool.eq_false_iff.mpr c5
  subst c5
  rw [if_neg (show ¬ (false = true) by decide)] at H
  simp only [Option.some.injEq, Prod.mk.injEq] at H
  obtain ⟨rfl, rfl, rfl⟩ := H
  have lf2_ := trivial
 all_goals
  go_enter Tryd.func64, Tryd.ntmps64
  go_wp2_with (first | ((with_reducible refine gate_callee (f := 53) rfl ?_); refine gl_ (some 15) Tryd.func53 #[.pointer (some ⟨g, 0, none⟩), .int .i64 3] ?_; (with_reducible refine (spec_l1Below.calls g s0_0 t272 t273 3 t277 t278 t279 w0 _ ?side1 ?side2 A7.out).mono ?_); (case side1 => exact ri83 HI0); (case side2 => exact rbi83 HB HI0 IsS83.ge); rintro e w13 ⟨rfl, hi, hb, hk⟩; refine ⟨_, rfl, ?_⟩; have n0_ := am (Kd.R_mono (Kd.R_keep (IsS83.apart (show IsS83 w0 _ g s0_0 t272 t273 from ri83 HI0) (rr HO267) (by decide)) hk (fun _ h => h.2)) (fun _ h => h.1)); have n1_ := am (Mk.R_mono (Mk.R_keep (IsS83.apartM (show IsS83 w0 _ g s0_0 t272 t273 from ri83 HI0) (by (with_reducible repeat (first | apply Mk.R_alloc | apply Mk.R_drewN | apply Mk.R_drew)); exact HO276.out) (by decide)) hk (fun _ h => h.2)) (fun _ h => h.1)); have n2_ := am (KeepBut.trans (rkk HK) hk (.inl rfl)); have n3_ := am (hb); have n4_ := am (hi); clear HO267; clear HO276; clear HK; clear HB; clear HI0; have HO267 := n0_; have HO276 := n1_; have HK := n2_; have HB := n3_; have HI0 := n4_; clear n0_ n1_ n2_ n3_ n4_; (try clear hb); (try clear hb2); (try clear hk); (try clear hi)) | ((with_reducible refine gate_dst (N := 13) rfl ?_); refine Mk.conv_event rfl (N := 13) rfl (src := 9) (dst := 22) (e := 5) (s := t270) (x := .tmp 12) rfl Tryd.underlying9 Tryd.underlying22 Tryd.underlying5 rfl (spec_bytesOf.size A6.out) ?_; intro v275 w12 HOMK_ hb; rw [spec_bytesOf.is A6.out] at HOMK_; have n0_ := am (Kd.R_below (rr HO267) hb); have n1_ := am (Mk.R_lower HOMK_ (keep_size (w := w) (g := g) (row := none) (rkk HK))); have n2_ := am (IsS83.below (ri83 HI0) hb); have n3_ := am (KeepBut.trans (rkk HK) (KeepBut.of_below hb g none) (.inl rfl)); have n4_ := am (below_step (rbi83 HB HI0 IsS83.ge) hb); clear HO267; clear HI0; clear HK; clear HB; have HO267 := n0_; have HO276 := n1_; have HI0 := n2_; have HK := n3_; have HB := n4_; clear n0_ n1_ n2_ n3_ n4_; (try clear hb); (try clear hb2); (try clear hk); (try clear hi); (try clear HOMK_)) | ((with_reducible refine gate_callee (f := 52) rfl ?_); refine gl_ (some 11) Tryd.func52 #[.pointer (some ⟨g, 0, none⟩), .int .i64 2] ?_; (with_reducible refine (spec_l1Once.calls g s0_0 t268 t269 2 false t272 t273 w0 _ ?side1 ?side2 A4.out).mono ?_); (case side1 => exact ri83 HI0); (case side2 => exact rbi83 HB HI0 IsS83.ge); rintro e w55 ⟨rfl, hi, hb, hk⟩; refine ⟨_, rfl, ?_⟩; have n0_ := am (Kd.R_mono (Kd.R_keep (IsS83.apart (show IsS83 w0 _ g s0_0 t268 t269 from ri83 HI0) (rr HO267) (by decide)) hk (fun _ h => h.2)) (fun _ h => h.1)); have n1_ := am (KeepBut.trans (rkk HK) hk (.inl rfl)); have n2_ := am (hb); have n3_ := am (hi); clear HO267; clear HK; clear HB; clear HI0; have HO267 := n0_; have HK := n1_; have HB := n2_; have HI0 := n3_; clear n0_ n1_ n2_ n3_; (try clear hb); (try clear hb2); (try clear hk); (try clear hi)) | ((with_reducible refine gate_callee (f := 52) rfl ?_); refine gl_ (some 11) Tryd.func52 #[.pointer (some ⟨g, 0, none⟩), .int .i64 2] ?_; (with_reducible refine (spec_l1Once.calls g s0_0 t268 t269 2 true t272 t273 w0 _ ?side1 ?side2 A4.out).mono ?_); (case side1 => exact ri83 HI0); (case side2 => exact rbi83 HB HI0 IsS83.ge); rintro e w11 ⟨rfl, hi, hb, hk⟩; refine ⟨_, rfl, ?_⟩; have n0_ := am (Kd.R_mono (Kd.R_keep (IsS83.apart (show IsS83 w0 _ g s0_0 t268 t269 from ri83 HI0) (rr HO267) (by decide)) hk (fun _ h => h.2)) (fun _ h => h.1)); have n1_ := am (KeepBut.trans (rkk HK) hk (.inl rfl)); have n2_ := am (hb); have n3_ := am (hi); clear HO267; clear HK; clear HB; clear HI0; have HO267 := n0_; have HK := n1_; have HB := n2_; have HI0 := n3_; clear n0_ n1_ n2_ n3_; (try clear hb); (try clear hb2); (try clear hk); (try clear hi)) | ((with_reducible refine gate_callee (f := 51) rfl ?_); refine gl_ (some 8) Tryd.func51 #[.pointer (some ⟨g, 0, none⟩)] ?_; (with_reducible refine (spec_l1DrawRunes.calls k g s0_0 s0_1 s0_2 t265 t268 t269 w0 _ ?side1 ?side2 A2.out).mono ?_); (case side1 => exact ri83 HI0); (case side2 => exact rbi83 HB HI0 IsS83.ge); rintro e w8 ⟨v266, rfl, ho0, hi, hb, hk⟩; refine ⟨_, rfl, ?_⟩; have n0_ := am (Kd.R_lower ho0 (keep_size (w := w) (g := g) (row := none) (rkk HK))); have n1_ := am (KeepBut.trans (rkk HK) hk (.inl rfl)); have n2_ := am (hb); have n3_ := am (hi); clear HK; clear HB; clear HI0; have HO267 := n0_; have HK := n1_; have HB := n2_; have HI0 := n3_; clear n0_ n1_ n2_ n3_; (try clear hb); (try clear hb2); (try clear hk); (try clear hi); (try clear ho0); obtain ⟨Ao9, co9, eo9⟩ := Kd.R_slice HO267.out; subst eo9) | ((with_reducible refine gate_callee (f := 18) rfl ?_); refine gl_ (some 9) Tryd.func18 #[.slice Ao9 t265.length co9] ?_; (with_reducible refine (spec_Text.calls k _ _ t265 t270 _ ?side1 ?side2 A3.out).mono ?_); (case side1 => repeat (first | exact (Kd.R_reads' HO267.out).2.2 | (with_reducible refine Kd.C_alloc ?_ _) | (with_reducible refine Kd.C_drewN ?_ _) | (with_reducible refine Kd.C_drew ?_))); (case side2 => exact (Kd.R_reads' HO267.out).2.1); rintro e w10 ⟨rfl, hb⟩; refine ⟨_, rfl, ?_⟩; have n0_ := am (Kd.R_below (rr HO267) hb); have n1_ := am (IsS83.below (ri83 HI0) hb); have n2_ := am (KeepBut.trans (rkk HK) (KeepBut.of_below hb g none) (.inl rfl)); have n3_ := am (below_step (rbi83 HB HI0 IsS83.ge) hb); clear HO267; clear HI0; clear HK; clear HB; have HO267 := n0_; have HI0 := n1_; have HK := n2_; have HB := n3_; clear n0_ n1_ n2_ n3_; (try clear hb); (try clear hb2); (try clear hk); (try clear hi)))
  first
  | (
    have q_ := lf1_
    go_loopg [4, 5] k (fun kq v4 v5 w' => ∃ (x4_1 : List Int) (x5_1 : Int) (x1001_1 : Int) (x1002_1 : Int), v5 = .int .i64 x5_1 ∧ Aside0 (spec_l1DrawBytes.l0 kq x4_1 x5_1 s0_0 x1001_1 x1002_1 = some (r1, r2, r3)) ∧ Aside0 (kq ≤ k) ∧ Aside0 (Mk.R 5 w' w.heap.size (fun _ => True) v4 x4_1) ∧ Aside0 (IsS83 w0 w' g s0_0 x1001_1 x1002_1) ∧ Aside0 (KeepBut w w' g none) ∧ Aside0 (Below w0.heap.size w0 w'))
    case atStart => exact ⟨(t274), (t277), (t278), (t279), (by first | rfl | (simp; done) | (simp [*]; done)), H', ⟨Nat.le_refl _⟩, ⟨by (with_reducible repeat (first | apply Mk.R_alloc | apply Mk.R_drewN | apply Mk.R_drew)); exact HO276.out⟩, ⟨ri83 HI0⟩, ⟨rkk HK⟩, ⟨rbi83 HB HI0 IsS83.ge⟩⟩
    case round =>
     clear H'
     try clear c1
     try clear p2
     try clear c5
     try clear c6
     try clear c10
     obtain ⟨x4_1, x5_1, x1001_1, x1002_1, rfl, HA, HK1, HO_4, HI0, HK, HB⟩ := hrel
     cases gk with
     | zero => exact absurd HA.out (by simp [spec_l1DrawBytes.l0])
     | succ k1 =>
      have H := HA.out
      clear HA
      simp only [spec_l1DrawBytes.l0] at H
      by_cases c14 : x5_1 > 0
      ·rw [if_pos c14] at H
       have c14b0 : decide (0 < x5_1) = true := decide_eq_true c14
       clear c14
       replace H := Option.bind_eq_some_iff.mp H
       obtain ⟨⟨t280, t281, t282⟩, A150, H⟩ := H
       (try dsimp only at H)
       have A15 := am A150
       clear A150
       obtain ⟨y283, hy283⟩ : ∃ y_ : List Int, y_ = (([128, 194, 228, 240, 255, 237, 160, 192, (t280) % 256] : List Int)) := ⟨_, rfl⟩
       replace H : ((spec_l1Below.f s0_0 t281 t282 9).bind fun bt286 => (if 0 ≤ bt286.1 then (if bt286.1 < (y283.length : Int) then (if x4_1.length < 140737488355328 then (spec_l1DrawBytes.l0 k1 (x4_1 ++ [rd y283 bt286.1]) (wrap64 (x5_1 - 1)) s0_0 bt286.2.1 bt286.2.2) else (none)) else (none)) else (none))) = some (r1, r2, r3) := by first | (rw [hy283]; with_reducible exact H) | (rw [hy283]; exact H) | exact H
       have Ny283 := am hy283
       clear hy283
       replace H := Option.bind_eq_some_iff.mp H
       obtain ⟨⟨t286, t287, t288⟩, A160, H⟩ := H
       (try dsimp only at H)
       have A16 := am A160
       clear A160
       refine em_ (p := 0 ≤ t286) (fun c17 => ?g3p) (fun c17 => ?g3n)
       case' g3p =>
        rw [if_pos c17] at H
        have c17b0 : decide (0 ≤ t286) = true := decide_eq_true c17
        clear c17
        refine em_ (p := t286 < (y283.length : Int)) (fun c18 => ?g2p) (fun c18 => ?g2n)
        case' g2p =>
         rw [if_pos c18] at H
         have c18b0 : decide (t286 < (y283.length : Int)) = true := decide_eq_true c18
         clear c18
         refine em_ (p := x4_1.length < 140737488355328) (fun c19 => ?g1p) (fun c19 => ?g1n)
         case' g1p =>
          rw [if_pos c19] at H
          have LMc19 := am c19
          clear c19
          obtain ⟨y290, hy290⟩ : ∃ y_ : List Int, y_ = (x4_1 ++ [rd y283 t286]) := ⟨_, rfl⟩
          replace H : (spec_l1DrawBytes.l0 k1 y290 (wrap64 (x5_1 - 1)) s0_0 t287 t288) = some (r1, r2, r3) := by first | (rw [hy290]; with_reducible exact H) | (rw [hy290]; exact H) | exact H
          have Ny290 := am hy290
          clear hy290
          have H' := am H
          clear H
          have lf3_ := trivial
         case g1n =>
          rw [if_neg c19] at H
          exact absurd H (by simp)
        case g2n =>
         rw [if_neg c18] at H
         exact absurd H (by simp)
       case g3n =>
        rw [if_neg c17] at H
        exact absurd H (by simp)
       all_goals
        go_wp2_with (first | ((with_reducible refine gate_callee (f := 74) rfl ?_); refine gl_ (some 22) Tryd.func74 #[.pointer (some ⟨g, 0, none⟩)] ?_; (with_reducible refine (spec_l1Byte.calls g s0_0 x1001_1 x1002_1 t280 t281 t282 w0 _ ?side1 ?side2 A15.out).mono ?_); (case side1 => exact ri83 HI0); (case side2 => exact rbi83 HB HI0 IsS83.ge); rintro e w20 ⟨rfl, hi, hb, hk⟩; refine ⟨_, rfl, ?_⟩; have n0_ := am (Mk.R_mono (Mk.R_keep (IsS83.apartM (show IsS83 w0 _ g s0_0 x1001_1 x1002_1 from ri83 HI0) (by (with_reducible repeat (first | apply Mk.R_alloc | apply Mk.R_drewN | apply Mk.R_drew)); exact HO_4.out) (by decide)) hk (fun _ h => h.2)) (fun _ h => h.1)); have n1_ := am (KeepBut.trans (rkk HK) hk (.inl rfl)); have n2_ := am (hb); have n3_ := am (hi); clear HO_4; clear HK; clear HB; clear HI0; have HO_4 := n0_; have HK := n1_; have HB := n2_; have HI0 := n3_; clear n0_ n1_ n2_ n3_; (try clear hb); (try clear hb2); (try clear hk); (try clear hi)) | ((with_reducible refine gate_dst (N := 24) rfl ?_); refine Kd.R_lit (Kd.int .u8) _ 5 ?hg (N := 24) ?hd (xs := ([128, 194, 228, 240, 255, 237, 160, 192, (t280) % 256] : List Int)) (inner := [.int .u8 128, .int .u8 194, .int .u8 228, .int .u8 240, .int .u8 255, .int .u8 237, .int .u8 160, .int .u8 192, .int .u8 ((t280) % 256)]) (ok := fun _ => True) (okp := fun _ => True) ?hr ?hp (fun _ hk => hk) trivial (Below.refl _ _) (Nat.le_refl _) (by simp) ?_; (case hd => rfl); (case hg => rfl); (case hr => first | (go_simp; done) | (go_simp; rfl)); (case hp => exact (Reps.one (show Kd.M (Kd.int .u8) _ _ _ 128 [.int .u8 128] from rfl) (Reps.one (show Kd.M (Kd.int .u8) _ _ _ 194 [.int .u8 194] from rfl) (Reps.one (show Kd.M (Kd.int .u8) _ _ _ 228 [.int .u8 228] from rfl) (Reps.one (show Kd.M (Kd.int .u8) _ _ _ 240 [.int .u8 240] from rfl) (Reps.one (show Kd.M (Kd.int .u8) _ _ _ 255 [.int .u8 255] from rfl) (Reps.one (show Kd.M (Kd.int .u8) _ _ _ 237 [.int .u8 237] from rfl) (Reps.one (show Kd.M (Kd.int .u8) _ _ _ 160 [.int .u8 160] from rfl) (Reps.one (show Kd.M (Kd.int .u8) _ _ _ 192 [.int .u8 192] from rfl) (Reps.one (show Kd.M (Kd.int .u8) _ _ _ ((t280) % 256) [.int .u8 ((t280) % 256)] from rfl) (Reps.none _ _))))))))))); intro v284 w21 ho22 hb hg_ hnew_; clear hg_ hnew_; (first | rw [← Ny283.out] at ho22 | (simp only [Int.reduceToNat] at ho22; rw [← Ny283.out] at ho22)); have n0_ := am (Mk.R_elder' (by (with_reducible repeat (first | apply Mk.R_alloc | apply Mk.R_drewN | apply Mk.R_drew)); exact HO_4.out) (Kd.R_base ho22) hb); have n1_ := am (Kd.R_lower (Kd.R_new' ho22 (Mk.R_lt (by (with_reducible repeat (first | apply Mk.R_alloc | apply Mk.R_drewN | apply Mk.R_drew)); exact HO_4.out))) (keep_size (w := w) (g := g) (row := none) (rkk HK))); have n2_ := am (IsS83.below (ri83 HI0) hb); have n3_ := am (KeepBut.trans (rkk HK) (KeepBut.of_below hb g none) (.inl rfl)); have n4_ := am (below_step (rbi83 HB HI0 IsS83.ge) hb); clear HO_4; clear HI0; clear HK; clear HB; have HO_4 := n0_; have HO285 := n1_; have HI0 := n2_; have HK := n3_; have HB := n4_; clear n0_ n1_ n2_ n3_ n4_; clear hb ho22) | ((with_reducible refine gate_callee (f := 53) rfl ?_); refine gl_ (some 26) Tryd.func53 #[.pointer (some ⟨g, 0, none⟩), .int .i64 9] ?_; (with_reducible refine (spec_l1Below.calls g s0_0 t281 t282 9 t286 t287 t288 w0 _ ?side1 ?side2 A16.out).mono ?_); (case side1 => exact ri83 HI0); (case side2 => exact rbi83 HB HI0 IsS83.ge); rintro e w23 ⟨rfl, hi, hb, hk⟩; refine ⟨_, rfl, ?_⟩; have n0_ := am (Mk.R_mono (Mk.R_keep (IsS83.apartM (show IsS83 w0 _ g s0_0 t281 t282 from ri83 HI0) (by (with_reducible repeat (first | apply Mk.R_alloc | apply Mk.R_drewN | apply Mk.R_drew)); exact HO_4.out) (by decide)) hk (fun _ h => h.2)) (fun _ h => h.1)); have n1_ := am (Kd.R_mono (Kd.R_keep (IsS83.apart (show IsS83 w0 _ g s0_0 t281 t282 from ri83 HI0) (rr HO285) (by decide)) hk (fun _ h => h.2)) (fun _ h => h.1)); have n2_ := am (KeepBut.trans (rkk HK) hk (.inl rfl)); have n3_ := am (hb); have n4_ := am (hi); clear HO_4; clear HO285; clear HK; clear HB; clear HI0; have HO_4 := n0_; have HO285 := n1_; have HK := n2_; have HB := n3_; have HI0 := n4_; clear n0_ n1_ n2_ n3_ n4_; (try clear hb); (try clear hb2); (try clear hk); (try clear hi); obtain ⟨Ao24, co24, eo24⟩ := Kd.R_slice HO285.out; subst eo24; have p289 : 0 ≤ (t286 : Int) := dt_; have q289 : t286 < (y283.length : Int) := dt_; obtain ⟨ad289, e289, hx289_0⟩ := Kd.at_int (Kd.R_reads' HO285.out).2.2 t286 p289 q289; cases e289; replace p289 := eq_true p289; replace q289 := eq_true q289) | ((with_reducible refine gate_builtin (b := .append) (xs := #[.tmp 20, .tmp 29]) rfl ?_); at_builtin; refine Mk.R_append (Kd.int .u8) w.heap.size rfl (.tmp 20) (.tmp 29) 22 5 (.int .u8 0) 1 rfl Tryd.underlying22 info5 rfl (by decide) (by omega) u4 x4_1 (rd y283 t286) [.int .u8 (rd y283 t286)] (fun k_ => some k_ ≠ (.slice (some ad289) y283.length co24 : Value).ownBlock) (fun _ => False) rfl rfl ?aP (fun _ hk => hk.elim) ?aF ?aO (Below.refl _ _) ?aS ?aL ?_; (case aP => exact rfl); (case aF => exact (fun k_ hk => Kd.fresh' (Kd.R_lt (rr HO285)) k_ hk)); (case aO => exact (by (with_reducible repeat (first | apply Mk.R_alloc | apply Mk.R_drewN | apply Mk.R_drew)); exact Mk.R_mono HO_4.out (fun _ hk => hk.2))); (case aS => exact (keep_size (w := w) (g := g) (row := none) (rkk HK))); (case aL => have := LMc19.out; omega); intro v291 w25 ho hb hg hat; rw [← Ny290.out] at ho; have n0_ := am (IsS83.grown (ri83 HI0) hg (IsS83.own_neM HI0.out HO_4.out (by decide))); have n1_ := am (Kd.R_after (ok := (fun _ => True)) (rr HO285) hg hat); have n2_ := am (below_weaken (rbi83 HB HI0 IsS83.ge) HL.out hb); have n3_ := am (KeepBut.trans (rkk HK) (KeepBut.of_grown hg g) (Mk.R_base2 HO_4.out)); have n4_ := am (ho); clear HI0; clear HO285; clear HB; clear HK; clear HO_4; have HI0 := n0_; have HO285 := n1_; have HB := n2_; have HK := n3_; have HO292 := n4_; clear n0_ n1_ n2_ n3_ n4_; clear ho hb hg hat))
        go_roundg k1
        case measure => have := HK1.out; omega
        case rel => exact ⟨(y290), (wrap64 (x5_1 - 1)), (t287), (t288), (by first | rfl | (simp; done) | (simp [*]; done)), H', ⟨by have := HK1.out; omega⟩, ⟨by (with_reducible repeat (first | apply Mk.R_alloc | apply Mk.R_drewN | apply Mk.R_drew)); exact Mk.R_mono HO292.out (fun _ hk => trivial)⟩, ⟨ri83 HI0⟩, ⟨rkk HK⟩, ⟨rbi83 HB HI0 IsS83.ge⟩⟩
      ·rw [if_neg c14] at H
       have c14b0 : decide (0 < x5_1) = false := decide_eq_false c14
       clear c14
       refine em_ (p := (x4_1.length : Int) > 0) (fun c26 => ?g8p) (fun c26 => ?g8n)
       case g8p =>
        rw [if_pos c26] at H
        have c26b0 : decide (0 < (x4_1.length : Int)) = true := decide_eq_true c26
        have c26b1 : decide (0 < x4_1.length) = true := decide_eq_true (by omega)
        clear c26
        replace H := Option.bind_eq_some_iff.mp H
        obtain ⟨⟨t293, t294, t295⟩, A270, H⟩ := H
        (try dsimp only at H)
        have A27 := am A270
        clear A270
        refine em_ (p := t293 = true) (fun c28 => ?g9p) (fun c28 => ?g9n)
        case g9p =>
         subst c28
         rw [if_pos rfl] at H
         replace H := Option.bind_eq_some_iff.mp H
         obtain ⟨⟨t296, t297, t298⟩, A290, H⟩ := H
         (try dsimp only at H)
         have A29 := am A290
         clear A290
         obtain ⟨y299, hy299⟩ : ∃ y_ : List Int, y_ = (([] : List Int)) := ⟨_, rfl⟩
         replace H : (if 0 ≤ t296 then (if t296 ≤ (x4_1.length : Int) then ((some (x4_1.drop (t296 : Int).toNat : List Int)).bind fun y302 => (if y299.length + y302.length < 140737488355328 then ((some (y299 ++ y302 : List Int)).bind fun y306 => ((some (x4_1.take (t296 : Int).toNat : List Int)).bind fun y309 => (if y306.length + y309.length < 140737488355328 then (some (strOfNums (y306 ++ y309), t297, t298)) else (none)))) else (none))) else (none)) else (none)) = some (r1, r2, r3) := by first | (rw [hy299]; with_reducible exact H) | (rw [hy299]; exact H) | exact H
         have Ny299 := am hy299
         clear hy299
         refine em_ (p := 0 ≤ t296) (fun c30 => ?g7p) (fun c30 => ?g7n)
         case' g7p =>
          rw [if_pos c30] at H
          have c30b0 := eq_true c30
          have c30b1 : decide (0 ≤ t296) = true := decide_eq_true c30
          clear c30
          refine em_ (p := t296 ≤ (x4_1.length : Int)) (fun c31 => ?g6p) (fun c31 => ?g6n)
          case' g6p =>
           rw [if_pos c31] at H
           have c31b0 := eq_true c31
           have c31b1 : decide (t296 ≤ (x4_1.length : Int)) = true := decide_eq_true c31
           clear c31
           obtain ⟨y302, hy302⟩ : ∃ y_ : List Int, y_ = (x4_1.drop (t296 : Int).toNat) := ⟨_, rfl⟩
           replace H : (if y299.length + y302.length < 140737488355328 then ((some (y299 ++ y302 : List Int)).bind fun y306 => ((some (x4_1.take (t296 : Int).toNat : List Int)).bind fun y309 => (if y306.length + y309.length < 140737488355328 then (some (strOfNums (y306 ++ y309), t297, t298)) else (none)))) else (none)) = some (r1, r2, r3) := by first | (rw [hy302]; with_reducible exact H) | (rw [hy302]; exact H) | exact H
           have Ny302 := am hy302
           clear hy302
           refine em_ (p := y299.length + y302.length < 140737488355328) (fun c32 => ?g5p) (fun c32 => ?g5n)
           case' g5p =>
            rw [if_pos c32] at H
            have LMc32 := am c32
            clear c32
            obtain ⟨y306, hy306⟩ : ∃ y_ : List Int, y_ = (y299 ++ y302) := ⟨_, rfl⟩
            replace H : ((some (x4_1.take (t296 : Int).toNat : List Int)).bind fun y309 => (if y306.length + y309.length < 140737488355328 then (some (strOfNums (y306 ++ y309), t297, t298)) else (none))) = some (r1, r2, r3) := by first | (rw [hy306]; with_reducible exact H) | (rw [hy306]; exact H) | exact H
            have Ny306 := am hy306
            clear hy306
            have c33b0 := eq_true (dt_ : 0 ≤ t296)
            have c34b0 := eq_true (dt_ : t296 ≤ (x4_1.length : Int))
            obtain ⟨y309, hy309⟩ : ∃ y_ : List Int, y_ = (x4_1.take (t296 : Int).toNat) := ⟨_, rfl⟩
            replace H : (if y306.length + y309.length < 140737488355328 then (some (strOfNums (y306 ++ y309), t297, t298)) else (none)) = some (r1, r2, r3) := by first | (rw [hy309]; with_reducible exact H) | (rw [hy309]; exact H) | exact H
            have Ny309 := am hy309
            clear hy309
            refine em_ (p := y306.length + y309.length < 140737488355328) (fun c35 => ?g4p) (fun c35 => ?g4n)
            case' g4p =>
             rw [if_pos c35] at H
             have LMc35 := am c35
             clear c35
             obtain ⟨y313, hy313⟩ : ∃ y_ : List Int, y_ = (y306 ++ y309) := ⟨_, rfl⟩
             replace H : (some (strOfNums y313, t297, t298)) = some (r1, r2, r3) := by first | (rw [hy313]; with_reducible exact H) | (rw [hy313]; exact H) | exact H
             have Ny313 := am hy313
             clear hy313
             simp only [Option.some.injEq, Prod.mk.injEq] at H
             obtain ⟨rfl, rfl, rfl⟩ := H
             obtain ⟨Ao36, co36, eo36⟩ := Mk.R_slice HO_4.out
             subst eo36
             have lf4_ := trivial
            case g4n =>
             rw [if_neg c35] at H
             exact absurd H (by simp)
           case g5n =>
            rw [if_neg c32] at H
            exact absurd H (by simp)
          case g6n =>
           rw [if_neg c31] at H
           exact absurd H (by simp)
         case g7n =>
          rw [if_neg c30] at H
          exact absurd H (by simp)
         all_goals
          try go_wp2_with (first | (go_at_call 52; (with_reducible refine (spec_l1Once.calls g s0_0 x1001_1 x1002_1 2 true t294 t295 w0 _ ?side1 ?side2 A27.out).mono ?_); (case side1 => exact ri83 HI0); (case side2 => exact rbi83 HB HI0 IsS83.ge); rintro e w37 ⟨rfl, hi, hb, hk⟩; have n0_ := am (Mk.R_mono (Mk.R_keep (IsS83.apartM (show IsS83 w0 _ g s0_0 x1001_1 x1002_1 from ri83 HI0) (by (with_reducible repeat (first | apply Mk.R_alloc | apply Mk.R_drewN | apply Mk.R_drew)); exact HO_4.out) (by decide)) hk (fun _ h => h.2)) (fun _ h => h.1)); have n1_ := am (KeepBut.trans (rkk HK) hk (.inl rfl)); have n2_ := am (hb); have n3_ := am (hi); clear HO_4; clear HK; clear HB; clear HI0; have HO_4 := n0_; have HK := n1_; have HB := n2_; have HI0 := n3_; clear n0_ n1_ n2_ n3_; (try clear hb); (try clear hb2); (try clear hk); (try clear hi)) | ((with_reducible refine gate_callee (f := 53) rfl ?_); refine gl_ (some 41) Tryd.func53 #[.pointer (some ⟨g, 0, none⟩), .int .i64 (x4_1.length : Int)] ?_; (with_reducible refine (spec_l1Below.calls g s0_0 t294 t295 (x4_1.length : Int) t296 t297 t298 w0 _ ?side1 ?side2 A29.out).mono ?_); (case side1 => exact ri83 HI0); (case side2 => exact rbi83 HB HI0 IsS83.ge); rintro e w38 ⟨rfl, hi, hb, hk⟩; refine ⟨_, rfl, ?_⟩; have n0_ := am (Mk.R_mono (Mk.R_keep (IsS83.apartM (show IsS83 w0 _ g s0_0 t294 t295 from ri83 HI0) (by (with_reducible repeat (first | apply Mk.R_alloc | apply Mk.R_drewN | apply Mk.R_drew)); exact HO_4.out) (by decide)) hk (fun _ h => h.2)) (fun _ h => h.1)); have n1_ := am (KeepBut.trans (rkk HK) hk (.inl rfl)); have n2_ := am (hb); have n3_ := am (hi); clear HO_4; clear HK; clear HB; clear HI0; have HO_4 := n0_; have HK := n1_; have HB := n2_; have HI0 := n3_; clear n0_ n1_ n2_ n3_; (try clear hb); (try clear hb2); (try clear hk); (try clear hi)))
          have n0_ := am (Mk.R_drew HO_4.out)
          have n1_ := am (IsS83.drew HI0.out)
          have n2_ := am (keep_drew HK.out)
          have n3_ := am (below_drew1 HB.out)
          clear HO_4
          clear HI0
          clear HK
          clear HB
          have HO_4 := n0_
          have HI0 := n1_
          have HK := n2_
          have HB := n3_
          clear n0_ n1_ n2_ n3_
          have q40 : (t296 : Int) ≤ ((x4_1.length : Int) : Int) := dt_
          obtain ⟨i040, hi040, _, hsz40, _⟩ := info_parts info5
          have hroom40 : x4_1.length ≤ co36 := (Mk.R_reads' HO_4.out).2.1
          have hC40 : Kd.C (Kd.int .u8) _ Ao36 x4_1.length x4_1 := (Mk.R_reads' HO_4.out).2.2
          have q040 : (0 : Int) ≤ (t296 : Int) := dt_
          have hcut40 := cut_from (P := Tryd.prog) 22 5 .i64 Tryd.underlying22 hi040 1 hsz40 Ao36 x4_1.length co36 t296 q040 q40
          have hr40 := Kd.C_drop (m := (t296 : Int).toNat) (c := co36) hC40 (by omega) hroom40
          obtain ⟨A40, hA40⟩ : ∃ A1, A1 = (if co36 = (t296 : Int).toNat then Ao36 else (Ao36 : Option Addr).map (·.add ((t296 : Int).toNat * 1))) := ⟨_, rfl⟩
          obtain ⟨c40, hc40⟩ : ∃ c1, c1 = co36 - (t296 : Int).toNat := ⟨_, rfl⟩
          have hy40 : y302.length = x4_1.length - (t296 : Int).toNat := (by rw [Ny302.out, List.length_drop] <;> omega)
          rw [show (x4_1).drop (t296 : Int).toNat = y302 from Ny302.out.symm] at hr40
          replace hr40 : Kd.C (Kd.int .u8) _ A40 y302.length y302 := (by rw [hA40]; exact hr40)
          rw [← hy40, ← hA40, ← hc40] at hcut40
          have HR305 := am hr40
          have HC305 := am (show y302.length ≤ c40 from by rw [hy40, hc40]; exact Nat.sub_le_sub_right hroom40 _)
          clear hr40 hC40 hroom40 hi040 hsz40 hc40
          have KY40 := am hy40
          have KA40 := am hA40
          clear hy40 hA40
          have KL40 := am (show (t296 : Int).toNat ≤ x4_1.length from by omega)
          replace q40 := eq_true q40
          have q41 : (t296 : Int) ≤ ((x4_1.length : Int) : Int) := dt_
          obtain ⟨i041, hi041, _, hsz41, _⟩ := info_parts info5
          have hroom41 : x4_1.length ≤ co36 := (Mk.R_reads' HO_4.out).2.1
          have hC41 : Kd.C (Kd.int .u8) _ Ao36 x4_1.length x4_1 := (Mk.R_reads' HO_4.out).2.2
          have hcut41 := cut_to (P := Tryd.prog) 22 5 .i64 Tryd.underlying22 hi041 Ao36 x4_1.length co36 t296 dt_ q41 hroom41
          have hr41 := Kd.C_take (m := (t296 : Int).toNat) hC41 (by omega)
          have hy41 : y309.length = (t296 : Int).toNat := (by rw [Ny309.out, List.length_take]; omega)
          rw [← Ny309.out] at hr41
          rw [← hy41] at hcut41
          have HR312 := am hr41
          have HC312 := am (show y309.length ≤ co36 from by omega)
          clear hr41 hC41 hroom41 hi041 hsz41
          have KY41 := am hy41
          clear hy41
          have KL41 := am (show (t296 : Int).toNat ≤ x4_1.length from by omega)
          replace q41 := eq_true q41
          refine start_ (n := 10) (S := fun w' => True) (ds := []) (bm 10 0) (by kernel_rfl) rfl rfl trivial (fun hHeld => ?_); refine with_tabW spec_l1DrawBytes.tab10 spec_l1DrawBytes.bits10 (fun HT_ HW_ => ?_)
          generalize w38.drew = w39 at HO_4 HI0 HK HB HR305 HR312 hHeld ⊢
          refine pu_ 1 43 (bm 10 2) HT_.out ?_
          refine pu_ 2 44 (bm 10 6) HT_.out ?_
          refine pu_ 3 45 (bm 10 14) HT_.out ?_
          refine pu_ 5 47 (bm 10 46) HT_.out ?_
          refine pu_ 6 48 (bm 10 110) HT_.out ?_
          refine pu_ 7 49 (bm 10 238) HT_.out ?_
          refine one_ (i := 0) (N := some 42) (bm 10 239) rfl rfl (one_of HT_.out (by kernel_rfl)) (by decide) (fun K hK => ?_)
          refine Kd.R_lit_step (Kd.int .u8) _ 5 ?hg (N := 42) ?hd (xs := ([] : List Int)) (inner := []) (ok := fun _ => True) (okp := fun _ => True) ?hr ?hp (fun _ hk => hk) trivial (Below.refl _ _) (Nat.le_refl _) (by simp) ?_; (case hd => rfl); (case hg => rfl); (case hr => first | (go_simp; done) | (go_simp; rfl)); (case hp => exact (Reps.none _ _))
          intro v300 w42 ho43 hb hg_ hnew_
          clear hg_ hnew_
          (first | rw [← Ny299.out] at ho43 | (simp only [Int.reduceToNat] at ho43; rw [← Ny299.out] at ho43))
          have n0_ := am (Mk.R_elder' (by (with_reducible repeat (first | apply Mk.R_alloc | apply Mk.R_drewN | apply Mk.R_drew)); exact HO_4.out) (Kd.R_base ho43) hb)
          have n1_ := am (Kd.R_lower (Kd.R_new' ho43 (Mk.R_lt (by (with_reducible repeat (first | apply Mk.R_alloc | apply Mk.R_drewN | apply Mk.R_drew)); exact HO_4.out))) (keep_size (w := w) (g := g) (row := none) (rkk HK)))
          have n2_ := am (IsS83.below (ri83 HI0) hb)
          have n3_ := am (Kd.C_below (by repeat (first | (with_reducible exact HR305.out) | (with_reducible refine Kd.C_alloc ?_ _) | (with_reducible refine Kd.C_drewN ?_ _) | (with_reducible refine Kd.C_drew ?_) | exact HR305.out)) hb)
          have n4_ := am (Kd.C_below (by repeat (first | (with_reducible exact HR312.out) | (with_reducible refine Kd.C_alloc ?_ _) | (with_reducible refine Kd.C_drewN ?_ _) | (with_reducible refine Kd.C_drew ?_) | exact HR312.out)) hb)
          have n5_ := am (KeepBut.trans (rkk HK) (KeepBut.of_below hb g none) (.inl rfl))
          have n6_ := am (below_step (rbi83 HB HI0 IsS83.ge) hb)
          clear HO_4
          clear HI0
          clear HR305
          clear HR312
          clear HK
          clear HB
          have HO_4 := n0_
          have HO301 := n1_
          have HI0 := n2_
          have HR305 := n3_
          have HR312 := n4_
          have HK := n5_
          have HB := n6_
          clear n0_ n1_ n2_ n3_ n4_ n5_ n6_
          clear hb ho43
          refine hK.out _ _ trivial (fun hHeld => ?_)
          clear hK K
          refine norm_ (a' := ?_) ?_ ?_
          rotate_left
          ·show Act.put _ (some 42) _ = _
           simp only [Act.put, List.setIfInBounds_toArray, List.set_cons_zero, List.set_cons_succ, i64_w, i32_w]
           rfl
          refine one_ (i := 4) (N := some 46) (bm 10 255) rfl rfl (one_of HT_.out (by kernel_rfl)) (by decide) (fun K hK => ?_)
          refine Kd.R_append_rows_step (Kd.int .u8) w.heap.size (by rfl) (.tmp 42) (.tmp 45) 22 5 (.int .u8 0) 1 rfl Tryd.underlying22 info5 rfl (by decide) (by omega) v300 y299 y302 _ _ _ (fun k_ => some k_ ≠ (.slice Ao36 x4_1.length co36 : Value).ownBlock) (fun _ => False) rfl rfl ?aO ?aR (fun _ _ h => h) (fun _ h => h.elim) ?aF (Below.refl _ _) ?aS ?aL ?_
          (case aR => repeat (first | exact (by repeat (first | (with_reducible exact HR305.out) | (with_reducible refine Kd.C_alloc ?_ _) | (with_reducible refine Kd.C_drewN ?_ _) | (with_reducible refine Kd.C_drew ?_) | exact HR305.out)) | (with_reducible refine Kd.C_alloc ?_ _) | (with_reducible refine Kd.C_drewN ?_ _) | (with_reducible refine Kd.C_drew ?_)))
          (case aF => exact (fun k_ hk => Kd.fresh' (Mk.R_lt (by (with_reducible repeat (first | apply Mk.R_alloc | apply Mk.R_drewN | apply Mk.R_drew)); exact HO_4.out)) k_ hk))
          (case aO => exact (by (with_reducible repeat (first | apply r1 | apply r2 | apply r3)); exact Kd.R_mono HO301.out (fun _ hk => hk.2)))
          (case aS => exact (keep_size (w := w) (g := g) (row := none) (rkk HK)))
          (case aL => have := LMc32.out; omega)
          intro v307 w44 ho hb hg hat
          rw [← Ny306.out] at ho
          have n0_ := am (Mk.R_after (ok := (fun _ => True)) (by (with_reducible repeat (first | apply Mk.R_alloc | apply Mk.R_drewN | apply Mk.R_drew)); exact HO_4.out) hg hat)
          have n1_ := am (IsS83.grown (ri83 HI0) hg (IsS83.own_ne HI0.out HO301.out (by decide)))
          have n2_ := am (below_weaken (rbi83 HB HI0 IsS83.ge) HL.out hb)
          have n3_ := am (KeepBut.trans (rkk HK) (KeepBut.of_grown hg g) (Kd.R_base2 HO301.out))
          have n4_ := am ((show Kd.C (Kd.int .u8) w44 A40 y302.length y302 from by rw [Ny302.out, KA40.out]; exact Kd.C_drop (m := (t296 : Int).toNat) (c := co36) ((Mk.R_reads' (Mk.R_after (ok := (fun _ => True)) (by (with_reducible repeat (first | apply Mk.R_alloc | apply Mk.R_drewN | apply Mk.R_drew)); exact HO_4.out) hg hat)).2.2) KL40.out ((Mk.R_reads' (Mk.R_after (ok := (fun _ => True)) (by (with_reducible repeat (first | apply Mk.R_alloc | apply Mk.R_drewN | apply Mk.R_drew)); exact HO_4.out) hg hat)).2.1)))
          have n5_ := am ((show Kd.C (Kd.int .u8) w44 Ao36 y309.length y309 from by rw [Ny309.out]; exact Kd.C_take (m := (t296 : Int).toNat) ((Mk.R_reads' (Mk.R_after (ok := (fun _ => True)) (by (with_reducible repeat (first | apply Mk.R_alloc | apply Mk.R_drewN | apply Mk.R_drew)); exact HO_4.out) hg hat)).2.2) KL41.out))
          have n6_ := am (ho)
          clear HO_4
          clear HI0
          clear HB
          clear HK
          clear HR305
          clear HR312
          clear HO301
          have HO_4 := n0_
          have HI0 := n1_
          have HB := n2_
          have HK := n3_
          have HR305 := n4_
          have HR312 := n5_
          have HO308 := n6_
          clear n0_ n1_ n2_ n3_ n4_ n5_ n6_
          clear ho hb hg hat
          refine hK.out _ _ trivial (fun hHeld => ?_)
          clear hK K
          refine norm_ (a' := ?_) ?_ ?_
          rotate_left
          ·show Act.put _ (some 46) _ = _
           simp only [Act.put, List.setIfInBounds_toArray, List.set_cons_zero, List.set_cons_succ, i64_w, i32_w]
           rfl
          refine one_ (i := 8) (N := some 50) (bm 10 511) rfl rfl (one_of HT_.out (by kernel_rfl)) (by decide) (fun K hK => ?_)
          refine Kd.R_append_rows_step (Kd.int .u8) w.heap.size (by rfl) (.tmp 46) (.tmp 49) 22 5 (.int .u8 0) 1 rfl Tryd.underlying22 info5 rfl (by decide) (by omega) v307 y306 y309 _ _ _ (fun k_ => some k_ ≠ (.slice Ao36 x4_1.length co36 : Value).ownBlock) (fun _ => False) rfl rfl ?aO ?aR (fun _ _ h => h) (fun _ h => h.elim) ?aF (Below.refl _ _) ?aS ?aL ?_
          (case aR => repeat (first | exact (by repeat (first | (with_reducible exact HR312.out) | (with_reducible refine Kd.C_alloc ?_ _) | (with_reducible refine Kd.C_drewN ?_ _) | (with_reducible refine Kd.C_drew ?_) | exact HR312.out)) | (with_reducible refine Kd.C_alloc ?_ _) | (with_reducible refine Kd.C_drewN ?_ _) | (with_reducible refine Kd.C_drew ?_)))
          (case aF => exact (fun k_ hk => Kd.fresh' (Mk.R_lt (by (with_reducible repeat (first | apply Mk.R_alloc | apply Mk.R_drewN | apply Mk.R_drew)); exact HO_4.out)) k_ hk))
          (case aO => exact (rr HO308))
          (case aS => exact (keep_size (w := w) (g := g) (row := none) (rkk HK)))
          (case aL => have := LMc35.out; omega)
          intro v314 w45 ho hb hg hat
          rw [← Ny313.out] at ho
          have n0_ := am (Mk.R_after (ok := (fun _ => True)) (by (with_reducible repeat (first | apply Mk.R_alloc | apply Mk.R_drewN | apply Mk.R_drew)); exact HO_4.out) hg hat)
          have n1_ := am (IsS83.grown (ri83 HI0) hg (IsS83.own_ne HI0.out HO308.out (by decide)))
          have n2_ := am (below_weaken (rbi83 HB HI0 IsS83.ge) HL.out hb)
          have n3_ := am (KeepBut.trans (rkk HK) (KeepBut.of_grown hg g) (Kd.R_base2 HO308.out))
          have n4_ := am ((show Kd.C (Kd.int .u8) w45 A40 y302.length y302 from by rw [Ny302.out, KA40.out]; exact Kd.C_drop (m := (t296 : Int).toNat) (c := co36) ((Mk.R_reads' (Mk.R_after (ok := (fun _ => True)) (by (with_reducible repeat (first | apply Mk.R_alloc | apply Mk.R_drewN | apply Mk.R_drew)); exact HO_4.out) hg hat)).2.2) KL40.out ((Mk.R_reads' (Mk.R_after (ok := (fun _ => True)) (by (with_reducible repeat (first | apply Mk.R_alloc | apply Mk.R_drewN | apply Mk.R_drew)); exact HO_4.out) hg hat)).2.1)))
          have n5_ := am ((show Kd.C (Kd.int .u8) w45 Ao36 y309.length y309 from by rw [Ny309.out]; exact Kd.C_take (m := (t296 : Int).toNat) ((Mk.R_reads' (Mk.R_after (ok := (fun _ => True)) (by (with_reducible repeat (first | apply Mk.R_alloc | apply Mk.R_drewN | apply Mk.R_drew)); exact HO_4.out) hg hat)).2.2) KL41.out))
          have n6_ := am (ho)
          clear HO_4
          clear HI0
          clear HB
          clear HK
          clear HR305
          clear HR312
          clear HO308
          have HO_4 := n0_
          have HI0 := n1_
          have HB := n2_
          have HK := n3_
          have HR305 := n4_
          have HR312 := n5_
          have HO315 := n6_
          clear n0_ n1_ n2_ n3_ n4_ n5_ n6_
          clear ho hb hg hat
          refine hK.out _ _ trivial (fun hHeld => ?_)
          clear hK K
          refine norm_ (a' := ?_) ?_ ?_
          rotate_left
          ·show Act.put _ (some 50) _ = _
           simp only [Act.put, List.setIfInBounds_toArray, List.set_cons_zero, List.set_cons_succ, i64_w, i32_w]
           rfl
          refine pu_ 9 4 (bm 10 1023) HT_.out ?_
          refine done_ (done_of HT_.out (by kernel_rfl)) ?_
          have hcv46 := own_string (P := Tryd.prog) Tryd.underlying22 Tryd.underlying5 Tryd.underlying9 (Kd.own_of_R HO315.out)
          try go_wp2
          go_ret
          exact ⟨by first | rfl | (simp [errW_none, errW_some] <;> rfl) | (simp [*, errW_none, errW_some] <;> rfl), ri83 HI0, rbi83 HB HI0 IsS83.ge, rkk HK⟩
        case' g9n =>
         replace c28 := Bool.eq_false_iff.mpr c28
         subst c28
         rw [if_neg (show ¬ (false = true) by decide)] at H
         simp only [Option.some.injEq, Prod.mk.injEq] at H
         obtain ⟨rfl, rfl, rfl⟩ := H
         obtain ⟨Ao47, co47, eo47⟩ := Mk.R_slice HO_4.out
         subst eo47
         have lf7_ := trivial
        all_goals
         go_wp2_with (first | (go_at_call 52; (with_reducible refine (spec_l1Once.calls g s0_0 x1001_1 x1002_1 2 false t294 t295 w0 _ ?side1 ?side2 A27.out).mono ?_); (case side1 => exact ri83 HI0); (case side2 => exact rbi83 HB HI0 IsS83.ge); rintro e w48 ⟨rfl, hi, hb, hk⟩; have n0_ := am (Mk.R_mono (Mk.R_keep (IsS83.apartM (show IsS83 w0 _ g s0_0 x1001_1 x1002_1 from ri83 HI0) (by (with_reducible repeat (first | apply Mk.R_alloc | apply Mk.R_drewN | apply Mk.R_drew)); exact HO_4.out) (by decide)) hk (fun _ h => h.2)) (fun _ h => h.1)); have n1_ := am (KeepBut.trans (rkk HK) hk (.inl rfl)); have n2_ := am (hb); have n3_ := am (hi); clear HO_4; clear HK; clear HB; clear HI0; have HO_4 := n0_; have HK := n1_; have HB := n2_; have HI0 := n3_; clear n0_ n1_ n2_ n3_; (try clear hb); (try clear hb2); (try clear hk); (try clear hi); have hcv49 := Mk.own_string (P := Tryd.prog) Tryd.underlying22 Tryd.underlying5 Tryd.underlying9 HO_4.out))
         go_ret
         exact ⟨by first | rfl | (simp [errW_none, errW_some] <;> rfl) | (simp [*, errW_none, errW_some] <;> rfl), ri83 HI0, rbi83 HB HI0 IsS83.ge, rkk HK⟩
       case' g8n =>
        rw [if_neg c26] at H
        have c26b0 : decide (0 < (x4_1.length : Int)) = false := decide_eq_false c26
        have c26b1 : decide (0 < x4_1.length) = false := decide_eq_false (by omega)
        clear c26
        simp only [Option.some.injEq, Prod.mk.injEq] at H
        obtain ⟨rfl, rfl, rfl⟩ := H
        obtain ⟨Ao50, co50, eo50⟩ := Mk.R_slice HO_4.out
        subst eo50
        have hcv51 := Mk.own_string (P := Tryd.prog) Tryd.underlying22 Tryd.underlying5 Tryd.underlying9 HO_4.out
        have lf6_ := trivial
       all_goals
        go_wp2
        go_ret
        exact ⟨by first | rfl | (simp [errW_none, errW_some] <;> rfl) | (simp [*, errW_none, errW_some] <;> rfl), ri83 HI0, rbi83 HB HI0 IsS83.ge, rkk HK⟩
    )
  | (
    have q_ := lf2_
    go_ret
    exact ⟨by first | rfl | (simp [errW_none, errW_some] <;> rfl) | (simp [*, errW_none, errW_some] <;> rfl), ri83 HI0, rbi83 HB HI0 IsS83.ge, rkk HK⟩
    )

end Go.Proofs.YtfhkpneffmcdbaaDoor.QB
