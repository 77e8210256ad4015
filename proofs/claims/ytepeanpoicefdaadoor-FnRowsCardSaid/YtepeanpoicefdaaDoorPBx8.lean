/- Contracts of Go functions that laws of this seat reach: each Lean function answers as its Go function does. No condition. Written by wip/tools/inj.py, over the kit's print. -/
import Derived.Test.YtepeanpoicefdaaDoorPBx0
import Derived.Test.YtepeanpoicefdaaDoorPBx3
import Derived.Test.YtepeanpoicefdaaDoorPBx4
import Derived.Test.YtepeanpoicefdaaDoorPBx5
import Derived.Test.YtepeanpoicefdaaDoorPBx7
namespace Go.Proofs.YtepeanpoicefdaaDoor.PB
open Go.RowKit Go.Proofs.YtepeanpoicefdaaDoorW.PrintWords Go.Proofs.YtepeanpoicefdaaDoorW.PrintLast Go.Proofs.YtepeanpoicefdaaDoorW.PrintMore
attribute [local go_sem] max2_int min2_int max_two min_two max_three min_three max_four min_four   -- for this text's walks alone
set_option linter.unusedVariables false
set_option linter.unusedSimpArgs false

/-! ### spec_l4DrawAny: function 35 -/
def spec_l4DrawAny.f (k : Nat) (s0_0 : List Int) (s0_1 : Int) (s0_2 : Int) : Option ((List (S48)) × Int × Int) := (spec_l1Below.f s0_0 s0_1 s0_2 9).bind fun bt308 => ((spec_l4Draw.f k s0_0 bt308.2.1 bt308.2.2 (wrap64 (1 + bt308.1))).bind fun bt311 => ((spec_l1Once.f s0_0 bt311.2.1 bt311.2.2 12).bind fun bt316 => (if bt316.1 = true then ((spec_l1Below.f s0_0 bt316.2.1 bt316.2.2 (bt311.1.length : Int)).bind fun bt319 => (if 0 ≤ bt319.1 then (if bt319.1 < (bt311.1.length : Int) then ((spec_l1Below.f s0_0 bt319.2.1 bt319.2.2 4).bind fun bt323 => (if bt323.1 = 0 then ((spec_l1From.f s0_0 bt323.2.1 bt323.2.2 (-1) 4).bind fun bt326 => (some ((bt311.1.set (bt319.1 : Int).toNat (⟨(rd_T48 bt311.1 bt319.1).f0, (⟨(rd_T48 bt311.1 bt319.1).f1.f0, (rd_T48 bt311.1 bt319.1).f1.f1, (rd_T48 bt311.1 bt319.1).f1.f2, (rd_T48 bt311.1 bt319.1).f1.f3, (rd_T48 bt311.1 bt319.1).f1.f4⟩ : S37), bt326.1⟩ : S48)), bt326.2.1, bt326.2.2))) else (if bt323.1 = 1 then ((some (([0, 10, 19968, (-1)] : List Int) : List Int)).bind fun y330 => ((spec_l1Below.f s0_0 bt323.2.1 bt323.2.2 4).bind fun bt333 => (if 0 ≤ bt333.1 then (if bt333.1 < (y330.length : Int) then (some ((bt311.1.set (bt319.1 : Int).toNat (⟨rd y330 bt333.1, (⟨(rd_T48 bt311.1 bt319.1).f1.f0, (rd_T48 bt311.1 bt319.1).f1.f1, (rd_T48 bt311.1 bt319.1).f1.f2, (rd_T48 bt311.1 bt319.1).f1.f3, (rd_T48 bt311.1 bt319.1).f1.f4⟩ : S37), (rd_T48 bt311.1 bt319.1).f2⟩ : S48)), bt333.2.1, bt333.2.2)) else (none)) else (none)))) else (if bt323.1 = 2 then ((spec_l3DrawAny.f s0_0 bt323.2.1 bt323.2.2).bind fun bt338 => (some ((bt311.1.set (bt319.1 : Int).toNat (⟨(rd_T48 bt311.1 bt319.1).f0, (⟨bt338.1, bt338.2.1, bt338.2.2.1, bt338.2.2.2.1, bt338.2.2.2.2.1⟩ : S37), (rd_T48 bt311.1 bt319.1).f2⟩ : S48)), bt338.2.2.2.2.2.1, bt338.2.2.2.2.2.2))) else (if bt323.1 = 3 then ((spec_l1Below.f s0_0 bt323.2.1 bt323.2.2 2).bind fun bt346 => ((spec_l4Row.f k (wrap64 (60 + bt346.1)) 0 0 false false false).bind fun t349 => (some (t349, bt346.2.1, bt346.2.2)))) else (some (bt311.1, bt323.2.1, bt323.2.2))))))) else (none)) else (none))) else (some (bt311.1, bt316.2.1, bt316.2.2)))))
theorem spec_l4DrawAny.mono : ∀ a0 a1 a2 k, LeO (spec_l4DrawAny.f k a0 a1 a2) (spec_l4DrawAny.f (k + 1) a0 a1 a2) := by
 intro a0 a1 a2 k
 unfold spec_l4DrawAny.f
 repeat' first
   | (with_reducible exact spec_l4Draw.mono _ _ _ _ _)
   | (with_reducible exact spec_l4Row.mono _ _ _ _ _ _ _)
   | (with_reducible exact LeO.refl _)
   | (with_reducible exact LeO.none _)
   | (with_reducible refine LeO.ite ?_ ?_)
   | (with_reducible refine LeO.bind ?_ (fun _ => ?_))
set_option maxHeartbeats 8000000 in
set_option maxRecDepth 100000 in
theorem spec_l4DrawAny.calls (k : Nat) (g : Nat) (s0_0 : List Int) (s0_1 : Int) (s0_2 : Int) (r1 : List (S48)) (r2 : Int) (r3 : Int) (w0 w : World) (hI : IsS87 w0 w g s0_0 s0_1 s0_2) (hB : Below w0.heap.size w0 w) (h : spec_l4DrawAny.f k s0_0 s0_1 s0_2 = some (r1, r2, r3)) :
  Calls Tryd.prog 35 #[.pointer (some ⟨g, 0, none⟩)] w fun e w' => ∃ v0_ : Value, e = .returned (v0_) ∧ Kd.R k48 48 w' w.heap.size (fun _ => True) v0_ r1 ∧ IsS87 w0 w' g s0_0 r2 r3 ∧ Below w0.heap.size w0 w' ∧ KeepBut w w' g none := by
 have hu37 := Tryd.underlying37
 have HI0 := am hI
 have HK := am (KeepBut.refl w g none)
 have HL := am hB.size
 clear hI
 have HW0 := am hB.size
 have HB := am hB
 clear hB
 have H := h
 unfold spec_l4DrawAny.f at H
 clear h
 replace H := Option.bind_eq_some_iff.mp H
 obtain ⟨⟨t308, t309, t310⟩, A20, H⟩ := H
 (try dsimp only at H)
 have A2 := am A20
 clear A20
 replace H := Option.bind_eq_some_iff.mp H
 obtain ⟨⟨t311, t314, t315⟩, A30, H⟩ := H
 (try dsimp only at H)
 have A3 := am A30
 clear A30
 replace H := Option.bind_eq_some_iff.mp H
 obtain ⟨⟨t316, t317, t318⟩, A40, H⟩ := H
 (try dsimp only at H)
 have A4 := am A40
 clear A40
 refine em_ (p := t316 = true) (fun c5 => ?g8p) (fun c5 => ?g8n)
 case' g8p =>
  subst c5
  rw [if_pos rfl] at H
  replace H := Option.bind_eq_some_iff.mp H
  obtain ⟨⟨t319, t320, t321⟩, A60, H⟩ := H
  (try dsimp only at H)
  have A6 := am A60
  clear A60
  refine em_ (p := 0 ≤ t319) (fun c7 => ?g7p) (fun c7 => ?g7n)
  case' g7p =>
   rw [if_pos c7] at H
   have c7b0 : decide (0 ≤ t319) = true := decide_eq_true c7
   clear c7
   refine em_ (p := t319 < (t311.length : Int)) (fun c8 => ?g6p) (fun c8 => ?g6n)
   case' g6p =>
    rw [if_pos c8] at H
    have c8b0 : decide (t319 < (t311.length : Int)) = true := decide_eq_true c8
    clear c8
    replace H := Option.bind_eq_some_iff.mp H
    obtain ⟨⟨t323, t324, t325⟩, A90, H⟩ := H
    (try dsimp only at H)
    have A9 := am A90
    clear A90
    refine em_ (p := t323 = 0) (fun c10 => ?g5p) (fun c10 => ?g5n)
    case' g5p =>
     rw [if_pos c10] at H
     have c10b0 : (t323 == 0) = true := beq_iff_eq.mpr c10
     have c10b1 : (t323 != 0) = false := bne_eq_false_iff_eq.mpr c10
     clear c10
     replace H := Option.bind_eq_some_iff.mp H
     obtain ⟨⟨t326, t327, t328⟩, A110, H⟩ := H
     (try dsimp only at H)
     have A11 := am A110
     clear A110
     obtain ⟨y329, hy329⟩ : ∃ y_ : List (S48), y_ = (t311.set (t319 : Int).toNat (⟨(rd_T48 t311 t319).f0, (⟨(rd_T48 t311 t319).f1.f0, (rd_T48 t311 t319).f1.f1, (rd_T48 t311 t319).f1.f2, (rd_T48 t311 t319).f1.f3, (rd_T48 t311 t319).f1.f4⟩ : S37), t326⟩ : S48)) := ⟨_, rfl⟩
     replace H : (some (y329, t327, t328)) = some (r1, r2, r3) := by first | (rw [hy329]; with_reducible exact H) | (rw [hy329]; exact H) | exact H
     have Ny329 := am hy329
     clear hy329
     simp only [Option.some.injEq, Prod.mk.injEq] at H
     obtain ⟨rfl, rfl, rfl⟩ := H
     have lf1_ := trivial
    case' g5n =>
     rw [if_neg c10] at H
     have c10b0 : (t323 == 0) = false := beq_eq_false_iff_ne.mpr c10
     have c10b1 : (t323 != 0) = true := bne_iff_ne.mpr c10
     refine em_ (p := t323 = 1) (fun c22 => ?g4p) (fun c22 => ?g4n)
     case' g4p =>
      rw [if_pos c22] at H
      have c22b0 : (t323 == 1) = true := beq_iff_eq.mpr c22
      have c22b1 : (t323 != 1) = false := bne_eq_false_iff_eq.mpr c22
      clear c22
      obtain ⟨y330, hy330⟩ : ∃ y_ : List Int, y_ = (([0, 10, 19968, (-1)] : List Int)) := ⟨_, rfl⟩
      replace H : ((spec_l1Below.f s0_0 t324 t325 4).bind fun bt333 => (if 0 ≤ bt333.1 then (if bt333.1 < (y330.length : Int) then (some ((t311.set (t319 : Int).toNat (⟨rd y330 bt333.1, (⟨(rd_T48 t311 t319).f1.f0, (rd_T48 t311 t319).f1.f1, (rd_T48 t311 t319).f1.f2, (rd_T48 t311 t319).f1.f3, (rd_T48 t311 t319).f1.f4⟩ : S37), (rd_T48 t311 t319).f2⟩ : S48)), bt333.2.1, bt333.2.2)) else (none)) else (none))) = some (r1, r2, r3) := by first | (rw [hy330]; with_reducible exact H) | (rw [hy330]; exact H) | exact H
      have Ny330 := am hy330
      clear hy330
      replace H := Option.bind_eq_some_iff.mp H
      obtain ⟨⟨t333, t334, t335⟩, A230, H⟩ := H
      (try dsimp only at H)
      have A23 := am A230
      clear A230
      refine em_ (p := 0 ≤ t333) (fun c24 => ?g1p) (fun c24 => ?g1n)
      case' g1p =>
       rw [if_pos c24] at H
       have c24b0 : decide (0 ≤ t333) = true := decide_eq_true c24
       clear c24
       refine em_ (p := t333 < (y330.length : Int)) (fun c25 => ?g0p) (fun c25 => ?g0n)
       case' g0p =>
        rw [if_pos c25] at H
        have c25b0 : decide (t333 < (y330.length : Int)) = true := decide_eq_true c25
        clear c25
        obtain ⟨y337, hy337⟩ : ∃ y_ : List (S48), y_ = (t311.set (t319 : Int).toNat (⟨rd y330 t333, (⟨(rd_T48 t311 t319).f1.f0, (rd_T48 t311 t319).f1.f1, (rd_T48 t311 t319).f1.f2, (rd_T48 t311 t319).f1.f3, (rd_T48 t311 t319).f1.f4⟩ : S37), (rd_T48 t311 t319).f2⟩ : S48)) := ⟨_, rfl⟩
        replace H : (some (y337, t334, t335)) = some (r1, r2, r3) := by first | (rw [hy337]; with_reducible exact H) | (rw [hy337]; exact H) | exact H
        have Ny337 := am hy337
        clear hy337
        simp only [Option.some.injEq, Prod.mk.injEq] at H
        obtain ⟨rfl, rfl, rfl⟩ := H
        have lf2_ := trivial
       case g0n =>
        rw [if_neg c25] at H
        exact absurd H (by simp)
      case g1n =>
       rw [if_neg c24] at H
       exact absurd H (by simp)
     case' g4n =>
      rw [if_neg c22] at H
      have c22b0 : (t323 == 1) = false := beq_eq_false_iff_ne.mpr c22
      have c22b1 : (t323 != 1) = true := bne_iff_ne.mpr c22
      refine em_ (p := t323 = 2) (fun c39 => ?g3p) (fun c39 => ?g3n)
      case' g3p =>
       rw [if_pos c39] at H
       have c39b0 : (t323 == 2) = true := beq_iff_eq.mpr c39
       have c39b1 : (t323 != 2) = false := bne_eq_false_iff_eq.mpr c39
       clear c39
       replace H := Option.bind_eq_some_iff.mp H
       obtain ⟨⟨t338, t339, t340, t341, t342, t343, t344⟩, A400, H⟩ := H
       (try dsimp only at H)
       have A40 := am A400
       clear A400
       obtain ⟨y345, hy345⟩ : ∃ y_ : List (S48), y_ = (t311.set (t319 : Int).toNat (⟨(rd_T48 t311 t319).f0, (⟨t338, t339, t340, t341, t342⟩ : S37), (rd_T48 t311 t319).f2⟩ : S48)) := ⟨_, rfl⟩
       replace H : (some (y345, t343, t344)) = some (r1, r2, r3) := by first | (rw [hy345]; with_reducible exact H) | (rw [hy345]; exact H) | exact H
       have Ny345 := am hy345
       clear hy345
       simp only [Option.some.injEq, Prod.mk.injEq] at H
       obtain ⟨rfl, rfl, rfl⟩ := H
       have lf3_ := trivial
      case' g3n =>
       rw [if_neg c39] at H
       have c39b0 : (t323 == 2) = false := beq_eq_false_iff_ne.mpr c39
       have c39b1 : (t323 != 2) = true := bne_iff_ne.mpr c39
       refine em_ (p := t323 = 3) (fun c51 => ?g2p) (fun c51 => ?g2n)
       case' g2p =>
        rw [if_pos c51] at H
        have c51b0 : (t323 == 3) = true := beq_iff_eq.mpr c51
        have c51b1 : (t323 != 3) = false := bne_eq_false_iff_eq.mpr c51
        clear c51
        replace H := Option.bind_eq_some_iff.mp H
        obtain ⟨⟨t346, t347, t348⟩, A520, H⟩ := H
        (try dsimp only at H)
        have A52 := am A520
        clear A520
        replace H := Option.bind_eq_some_iff.mp H
        obtain ⟨t349, A530, H⟩ := H
        (try dsimp only at H)
        have A53 := am A530
        clear A530
        simp only [Option.some.injEq, Prod.mk.injEq] at H
        obtain ⟨rfl, rfl, rfl⟩ := H
        have lf4_ := trivial
       case' g2n =>
        rw [if_neg c51] at H
        have c51b0 : (t323 == 3) = false := beq_eq_false_iff_ne.mpr c51
        have c51b1 : (t323 != 3) = true := bne_iff_ne.mpr c51
        simp only [Option.some.injEq, Prod.mk.injEq] at H
        obtain ⟨rfl, rfl, rfl⟩ := H
        have lf5_ := trivial
   case g6n =>
    rw [if_neg c8] at H
    exact absurd H (by simp)
  case g7n =>
   rw [if_neg c7] at H
   exact absurd H (by simp)
 case' g8n =>
  replace c5 := Bool.eq_false_iff.mpr c5
  subst c5
  rw [if_neg (show ¬ (false = true) by decide)] at H
  simp only [Option.some.injEq, Prod.mk.injEq] at H
  obtain ⟨rfl, rfl, rfl⟩ := H
  have lf6_ := trivial
 all_goals
  go_enter Tryd.func35, Tryd.ntmps35
  go_wp2_with (first | ((with_reducible refine gate_callee (f := 40) rfl ?_); refine gl_ (some 41) Tryd.func40 #[.pointer (some ⟨g, 0, none⟩)] ?_; (with_reducible refine (spec_l3DrawAny.calls g s0_0 t324 t325 t338 t339 t340 t341 t342 t343 t344 w0 _ ?side1 ?side2 A40.out).mono ?_); (case side1 => exact ri87 HI0); (case side2 => exact rbi87 HB HI0 IsS87.ge); rintro e w48 ⟨rfl, hi, hb, hk⟩; refine ⟨_, rfl, ?_⟩; have n0_ := am (Kd.R_mono (Kd.R_keep (IsS87.apart (show IsS87 w0 _ g s0_0 t324 t325 from ri87 HI0) (rr HO313) (by decide)) hk (fun _ h => h.2)) (fun _ h => h.1)); have n1_ := am (KeepBut.trans (rkk HK) hk (.inl rfl)); have n2_ := am (hb); have n3_ := am (hi); clear HO313; clear HK; clear HB; clear HI0; have HO313 := n0_; have HK := n1_; have HB := n2_; have HI0 := n3_; clear n0_ n1_ n2_ n3_; (try clear hb); (try clear hb2); (try clear hk); (try clear hi); have p41 : 0 ≤ (t319 : Int) := dt_; have q41 : (t319 : Int) < ((t311.length : Int) : Int) := dt_; obtain ⟨go41, co41, eo41, gb41, gl41, cl41, HG41⟩ := Kd.R_form HO313.out (by omega); (first | cases eo41 | (injection eo41 with ea_ en_ ec_; (first | subst ea_ | (injection ea_ with ea_; subst ea_)); subst ec_; clear en_)); have GB41 := am gb41; have GG41 := am HG41; clear gb41 gl41 HG41; (first | simp only [add_plain] at hx322_0 | skip); (first | simp only [add_plain] at hx322_1 | skip); (first | simp only [add_plain] at hx322_2 | skip); (first | simp only [add_plain] at hx322_3 | skip); (first | simp only [add_plain] at hx322_4 | skip); (first | simp only [add_plain] at hx322_5 | skip); (first | simp only [add_plain] at hx322_6 | skip); obtain ⟨ce41, hcl41, hM41, hcc41, hfr41⟩ := Kd.R_elem HO313.out z48 (t319 : Int) p41 q41; obtain rfl := k48_openM hM41; have hx41_0 : w48.cell? ⟨go41, (t319 : Int).toNat * 7, none⟩ = some (.int .i64 ((rd_T48 t311 t319).f0)) := hcc41 0 _ rfl; have hx41_1 : w48.cell? ⟨go41, (t319 : Int).toNat * 7 + 1, none⟩ = some (.int .i64 ((rd_T48 t311 t319).f1.f0)) := hcc41 1 _ rfl; have hx41_2 : w48.cell? ⟨go41, (t319 : Int).toNat * 7 + 2, none⟩ = some (.int .i64 ((rd_T48 t311 t319).f1.f1)) := hcc41 2 _ rfl; have hx41_3 : w48.cell? ⟨go41, (t319 : Int).toNat * 7 + 3, none⟩ = some (.bool ((rd_T48 t311 t319).f1.f2)) := hcc41 3 _ rfl; have hx41_4 : w48.cell? ⟨go41, (t319 : Int).toNat * 7 + 4, none⟩ = some (.bool ((rd_T48 t311 t319).f1.f3)) := hcc41 4 _ rfl; have hx41_5 : w48.cell? ⟨go41, (t319 : Int).toNat * 7 + 5, none⟩ = some (.bool ((rd_T48 t311 t319).f1.f4)) := hcc41 5 _ rfl; have hx41_6 : w48.cell? ⟨go41, (t319 : Int).toNat * 7 + 6, none⟩ = some (.int .i64 ((rd_T48 t311 t319).f2)) := hcc41 6 _ rfl; have hf41_0 : w48.frozen? ⟨go41, (t319 : Int).toNat * 7, none⟩ = false := hfr41 0; have hf41_1 : w48.frozen? ⟨go41, (t319 : Int).toNat * 7 + 1, none⟩ = false := hfr41 1; have hf41_2 : w48.frozen? ⟨go41, (t319 : Int).toNat * 7 + 2, none⟩ = false := hfr41 2; have hf41_3 : w48.frozen? ⟨go41, (t319 : Int).toNat * 7 + 3, none⟩ = false := hfr41 3; have hf41_4 : w48.frozen? ⟨go41, (t319 : Int).toNat * 7 + 4, none⟩ = false := hfr41 4; have hf41_5 : w48.frozen? ⟨go41, (t319 : Int).toNat * 7 + 5, none⟩ = false := hfr41 5; have hf41_6 : w48.frozen? ⟨go41, (t319 : Int).toNat * 7 + 6, none⟩ = false := hfr41 6; clear hcl41 hcc41 hfr41 hM41; replace p41 := eq_true p41; replace q41 := eq_true q41; have HX49 := am (show Kd.R k48 48 w48 w.heap.size (fun _ => True) (.slice (some ⟨go41, 0, none⟩) t311.length co16) t311 from (rr HO313)); obtain ⟨ce49, hcl49, hM49, hcc49, hfr49⟩ := Kd.R_elem HX49.out z48 (t319 : Int) dt_ (by have h_ : (t319 : Int) < ((t311.length : Int) : Int) := dt_; first | exact h_ | (have e_ := (Kd.R_reads' HO313.out).1; omega) | simpa using h_); obtain rfl := k48_openM hM49; have HP49 := Kd.R_seg HX49.out (t319 : Int) dt_ (by have h_ : (t319 : Int) < ((t311.length : Int) : Int) := dt_; first | exact h_ | (have e_ := (Kd.R_reads' HO313.out).1; omega) | simpa using h_) (seg := [.int .i64 t338, .int .i64 t339, .bool t340, .bool t341, .bool t342]) (j := 1) hcl49 hcc49 (show 6 ≤ 7 from by decide) (x' := (⟨(rd_T48 t311 t319).f0, (⟨t338, t339, t340, t341, t342⟩ : S37), (rd_T48 t311 t319).f2⟩ : S48)) (k48_mkM _ _ _ (⟨(rd_T48 t311 t319).f0, (⟨t338, t339, t340, t341, t342⟩ : S37), (rd_T48 t311 t319).f2⟩ : S48) ) (fun _ hk => hk); have hx49_1 := hcc49 1 _ rfl; (try simp only [show (k48).sz = 7 from rfl, Nat.mul_one, Nat.add_zero] at hx49_1); have hf49_1 := hfr49 1; (try simp only [show (k48).sz = 7 from rfl, Nat.mul_one, Nat.add_zero] at hf49_1); have hx49_2 := hcc49 2 _ rfl; (try simp only [show (k48).sz = 7 from rfl, Nat.mul_one, Nat.add_zero] at hx49_2); have hf49_2 := hfr49 2; (try simp only [show (k48).sz = 7 from rfl, Nat.mul_one, Nat.add_zero] at hf49_2); have hx49_3 := hcc49 3 _ rfl; (try simp only [show (k48).sz = 7 from rfl, Nat.mul_one, Nat.add_zero] at hx49_3); have hf49_3 := hfr49 3; (try simp only [show (k48).sz = 7 from rfl, Nat.mul_one, Nat.add_zero] at hf49_3); have hx49_4 := hcc49 4 _ rfl; (try simp only [show (k48).sz = 7 from rfl, Nat.mul_one, Nat.add_zero] at hx49_4); have hf49_4 := hfr49 4; (try simp only [show (k48).sz = 7 from rfl, Nat.mul_one, Nat.add_zero] at hf49_4); have hx49_5 := hcc49 5 _ rfl; (try simp only [show (k48).sz = 7 from rfl, Nat.mul_one, Nat.add_zero] at hx49_5); have hf49_5 := hfr49 5; (try simp only [show (k48).sz = 7 from rfl, Nat.mul_one, Nat.add_zero] at hf49_5); clear hcl49 hcc49 hfr49 hM49) | ((with_reducible refine gate_callee (f := 46) rfl ?_); refine gl_ (some 32) Tryd.func46 #[.pointer (some ⟨g, 0, none⟩), .int .i64 4] ?_; (with_reducible refine (spec_l1Below.calls g s0_0 t324 t325 4 t333 t334 t335 w0 _ ?side1 ?side2 A23.out).mono ?_); (case side1 => exact ri87 HI0); (case side2 => exact rbi87 HB HI0 IsS87.ge); rintro e w35 ⟨rfl, hi, hb, hk⟩; refine ⟨_, rfl, ?_⟩; have n0_ := am (Kd.R_mono (Kd.R_keep (IsS87.apart (show IsS87 w0 _ g s0_0 t324 t325 from ri87 HI0) (rr HO313) (by decide)) hk (fun _ h => h.2)) (fun _ h => h.1)); have n1_ := am (Kd.R_mono (Kd.R_keep (IsS87.apart (show IsS87 w0 _ g s0_0 t324 t325 from ri87 HI0) (rr HO332) (by decide)) hk (fun _ h => h.2)) (fun _ h => h.1)); have n2_ := am (KeepBut.trans (rkk HK) hk (.inl rfl)); have n3_ := am (hb); have n4_ := am (hi); clear HO313; clear HO332; clear HK; clear HB; clear HI0; have HO313 := n0_; have HO332 := n1_; have HK := n2_; have HB := n3_; have HI0 := n4_; clear n0_ n1_ n2_ n3_ n4_; (try clear hb); (try clear hb2); (try clear hk); (try clear hi); obtain ⟨Ao36, co36, eo36⟩ := Kd.R_slice HO332.out; subst eo36; have p336 : 0 ≤ (t333 : Int) := dt_; have q336 : t333 < (y330.length : Int) := dt_; obtain ⟨ad336, e336, hx336_0⟩ := Kd.at_int (Kd.R_reads' HO332.out).2.2 t333 p336 q336; cases e336; replace p336 := eq_true p336; replace q336 := eq_true q336; have p26 : 0 ≤ (t319 : Int) := dt_; have q26 : (t319 : Int) < ((t311.length : Int) : Int) := dt_; obtain ⟨go26, co26, eo26, gb26, gl26, cl26, HG26⟩ := Kd.R_form HO313.out (by omega); (first | cases eo26 | (injection eo26 with ea_ en_ ec_; (first | subst ea_ | (injection ea_ with ea_; subst ea_)); subst ec_; clear en_)); have GB26 := am gb26; have GG26 := am HG26; clear gb26 gl26 HG26; (first | simp only [add_plain] at hx322_0 | skip); (first | simp only [add_plain] at hx322_1 | skip); (first | simp only [add_plain] at hx322_2 | skip); (first | simp only [add_plain] at hx322_3 | skip); (first | simp only [add_plain] at hx322_4 | skip); (first | simp only [add_plain] at hx322_5 | skip); (first | simp only [add_plain] at hx322_6 | skip); obtain ⟨ce26, hcl26, hM26, hcc26, hfr26⟩ := Kd.R_elem HO313.out z48 (t319 : Int) p26 q26; obtain rfl := k48_openM hM26; have hx26_0 : w35.cell? ⟨go26, (t319 : Int).toNat * 7, none⟩ = some (.int .i64 ((rd_T48 t311 t319).f0)) := hcc26 0 _ rfl; have hx26_1 : w35.cell? ⟨go26, (t319 : Int).toNat * 7 + 1, none⟩ = some (.int .i64 ((rd_T48 t311 t319).f1.f0)) := hcc26 1 _ rfl; have hx26_2 : w35.cell? ⟨go26, (t319 : Int).toNat * 7 + 2, none⟩ = some (.int .i64 ((rd_T48 t311 t319).f1.f1)) := hcc26 2 _ rfl; have hx26_3 : w35.cell? ⟨go26, (t319 : Int).toNat * 7 + 3, none⟩ = some (.bool ((rd_T48 t311 t319).f1.f2)) := hcc26 3 _ rfl; have hx26_4 : w35.cell? ⟨go26, (t319 : Int).toNat * 7 + 4, none⟩ = some (.bool ((rd_T48 t311 t319).f1.f3)) := hcc26 4 _ rfl; have hx26_5 : w35.cell? ⟨go26, (t319 : Int).toNat * 7 + 5, none⟩ = some (.bool ((rd_T48 t311 t319).f1.f4)) := hcc26 5 _ rfl; have hx26_6 : w35.cell? ⟨go26, (t319 : Int).toNat * 7 + 6, none⟩ = some (.int .i64 ((rd_T48 t311 t319).f2)) := hcc26 6 _ rfl; have hf26_0 : w35.frozen? ⟨go26, (t319 : Int).toNat * 7, none⟩ = false := hfr26 0; have hf26_1 : w35.frozen? ⟨go26, (t319 : Int).toNat * 7 + 1, none⟩ = false := hfr26 1; have hf26_2 : w35.frozen? ⟨go26, (t319 : Int).toNat * 7 + 2, none⟩ = false := hfr26 2; have hf26_3 : w35.frozen? ⟨go26, (t319 : Int).toNat * 7 + 3, none⟩ = false := hfr26 3; have hf26_4 : w35.frozen? ⟨go26, (t319 : Int).toNat * 7 + 4, none⟩ = false := hfr26 4; have hf26_5 : w35.frozen? ⟨go26, (t319 : Int).toNat * 7 + 5, none⟩ = false := hfr26 5; have hf26_6 : w35.frozen? ⟨go26, (t319 : Int).toNat * 7 + 6, none⟩ = false := hfr26 6; clear hcl26 hcc26 hfr26 hM26; replace p26 := eq_true p26; replace q26 := eq_true q26; have HX37 := am (show Kd.R k48 48 w35 w.heap.size (fun _ => True) (.slice (some ⟨go26, 0, none⟩) t311.length co16) t311 from (rr HO313)); obtain ⟨ce37, hcl37, hM37, hcc37, hfr37⟩ := Kd.R_elem HX37.out z48 (t319 : Int) dt_ (by have h_ : (t319 : Int) < ((t311.length : Int) : Int) := dt_; first | exact h_ | (have e_ := (Kd.R_reads' HO313.out).1; omega) | simpa using h_); obtain rfl := k48_openM hM37; have HP37 := Kd.R_seg HX37.out (t319 : Int) dt_ (by have h_ : (t319 : Int) < ((t311.length : Int) : Int) := dt_; first | exact h_ | (have e_ := (Kd.R_reads' HO313.out).1; omega) | simpa using h_) (seg := [.int .i64 (rd y330 t333)]) (j := 0) hcl37 hcc37 (show 1 ≤ 7 from by decide) (x' := (⟨rd y330 t333, (⟨(rd_T48 t311 t319).f1.f0, (rd_T48 t311 t319).f1.f1, (rd_T48 t311 t319).f1.f2, (rd_T48 t311 t319).f1.f3, (rd_T48 t311 t319).f1.f4⟩ : S37), (rd_T48 t311 t319).f2⟩ : S48)) (k48_mkM _ _ _ (⟨rd y330 t333, (⟨(rd_T48 t311 t319).f1.f0, (rd_T48 t311 t319).f1.f1, (rd_T48 t311 t319).f1.f2, (rd_T48 t311 t319).f1.f3, (rd_T48 t311 t319).f1.f4⟩ : S37), (rd_T48 t311 t319).f2⟩ : S48) ) (fun _ hk => hk); have hx37_0 := hcc37 0 _ rfl; (try simp only [show (k48).sz = 7 from rfl, Nat.mul_one, Nat.add_zero] at hx37_0); have hf37_0 := hfr37 0; (try simp only [show (k48).sz = 7 from rfl, Nat.mul_one, Nat.add_zero] at hf37_0); clear hcl37 hcc37 hfr37 hM37) | ((with_reducible refine gate_callee (f := 68) rfl ?_); refine gl_ (some 24) Tryd.func68 #[.pointer (some ⟨g, 0, none⟩), .int .i64 (-1), .int .i64 4] ?_; (with_reducible refine (spec_l1From.calls g s0_0 t324 t325 (-1) 4 t326 t327 t328 w0 _ ?side1 ?side2 A11.out).mono ?_); (case side1 => exact ri87 HI0); (case side2 => exact rbi87 HB HI0 IsS87.ge); rintro e w19 ⟨rfl, hi, hb, hk⟩; refine ⟨_, rfl, ?_⟩; have n0_ := am (Kd.R_mono (Kd.R_keep (IsS87.apart (show IsS87 w0 _ g s0_0 t324 t325 from ri87 HI0) (rr HO313) (by decide)) hk (fun _ h => h.2)) (fun _ h => h.1)); have n1_ := am (KeepBut.trans (rkk HK) hk (.inl rfl)); have n2_ := am (hb); have n3_ := am (hi); clear HO313; clear HK; clear HB; clear HI0; have HO313 := n0_; have HK := n1_; have HB := n2_; have HI0 := n3_; clear n0_ n1_ n2_ n3_; (try clear hb); (try clear hb2); (try clear hk); (try clear hi); have p12 : 0 ≤ (t319 : Int) := dt_; have q12 : (t319 : Int) < ((t311.length : Int) : Int) := dt_; obtain ⟨go12, co12, eo12, gb12, gl12, cl12, HG12⟩ := Kd.R_form HO313.out (by omega); (first | cases eo12 | (injection eo12 with ea_ en_ ec_; (first | subst ea_ | (injection ea_ with ea_; subst ea_)); subst ec_; clear en_)); have GB12 := am gb12; have GG12 := am HG12; clear gb12 gl12 HG12; (first | simp only [add_plain] at hx322_0 | skip); (first | simp only [add_plain] at hx322_1 | skip); (first | simp only [add_plain] at hx322_2 | skip); (first | simp only [add_plain] at hx322_3 | skip); (first | simp only [add_plain] at hx322_4 | skip); (first | simp only [add_plain] at hx322_5 | skip); (first | simp only [add_plain] at hx322_6 | skip); obtain ⟨ce12, hcl12, hM12, hcc12, hfr12⟩ := Kd.R_elem HO313.out z48 (t319 : Int) p12 q12; obtain rfl := k48_openM hM12; have hx12_0 : w19.cell? ⟨go12, (t319 : Int).toNat * 7, none⟩ = some (.int .i64 ((rd_T48 t311 t319).f0)) := hcc12 0 _ rfl; have hx12_1 : w19.cell? ⟨go12, (t319 : Int).toNat * 7 + 1, none⟩ = some (.int .i64 ((rd_T48 t311 t319).f1.f0)) := hcc12 1 _ rfl; have hx12_2 : w19.cell? ⟨go12, (t319 : Int).toNat * 7 + 2, none⟩ = some (.int .i64 ((rd_T48 t311 t319).f1.f1)) := hcc12 2 _ rfl; have hx12_3 : w19.cell? ⟨go12, (t319 : Int).toNat * 7 + 3, none⟩ = some (.bool ((rd_T48 t311 t319).f1.f2)) := hcc12 3 _ rfl; have hx12_4 : w19.cell? ⟨go12, (t319 : Int).toNat * 7 + 4, none⟩ = some (.bool ((rd_T48 t311 t319).f1.f3)) := hcc12 4 _ rfl; have hx12_5 : w19.cell? ⟨go12, (t319 : Int).toNat * 7 + 5, none⟩ = some (.bool ((rd_T48 t311 t319).f1.f4)) := hcc12 5 _ rfl; have hx12_6 : w19.cell? ⟨go12, (t319 : Int).toNat * 7 + 6, none⟩ = some (.int .i64 ((rd_T48 t311 t319).f2)) := hcc12 6 _ rfl; have hf12_0 : w19.frozen? ⟨go12, (t319 : Int).toNat * 7, none⟩ = false := hfr12 0; have hf12_1 : w19.frozen? ⟨go12, (t319 : Int).toNat * 7 + 1, none⟩ = false := hfr12 1; have hf12_2 : w19.frozen? ⟨go12, (t319 : Int).toNat * 7 + 2, none⟩ = false := hfr12 2; have hf12_3 : w19.frozen? ⟨go12, (t319 : Int).toNat * 7 + 3, none⟩ = false := hfr12 3; have hf12_4 : w19.frozen? ⟨go12, (t319 : Int).toNat * 7 + 4, none⟩ = false := hfr12 4; have hf12_5 : w19.frozen? ⟨go12, (t319 : Int).toNat * 7 + 5, none⟩ = false := hfr12 5; have hf12_6 : w19.frozen? ⟨go12, (t319 : Int).toNat * 7 + 6, none⟩ = false := hfr12 6; clear hcl12 hcc12 hfr12 hM12; replace p12 := eq_true p12; replace q12 := eq_true q12; have HX20 := am (show Kd.R k48 48 w19 w.heap.size (fun _ => True) (.slice (some ⟨go12, 0, none⟩) t311.length co16) t311 from (rr HO313)); obtain ⟨ce20, hcl20, hM20, hcc20, hfr20⟩ := Kd.R_elem HX20.out z48 (t319 : Int) dt_ (by have h_ : (t319 : Int) < ((t311.length : Int) : Int) := dt_; first | exact h_ | (have e_ := (Kd.R_reads' HO313.out).1; omega) | simpa using h_); obtain rfl := k48_openM hM20; have HP20 := Kd.R_seg HX20.out (t319 : Int) dt_ (by have h_ : (t319 : Int) < ((t311.length : Int) : Int) := dt_; first | exact h_ | (have e_ := (Kd.R_reads' HO313.out).1; omega) | simpa using h_) (seg := [.int .i64 t326]) (j := 6) hcl20 hcc20 (show 7 ≤ 7 from by decide) (x' := (⟨(rd_T48 t311 t319).f0, (⟨(rd_T48 t311 t319).f1.f0, (rd_T48 t311 t319).f1.f1, (rd_T48 t311 t319).f1.f2, (rd_T48 t311 t319).f1.f3, (rd_T48 t311 t319).f1.f4⟩ : S37), t326⟩ : S48)) (k48_mkM _ _ _ (⟨(rd_T48 t311 t319).f0, (⟨(rd_T48 t311 t319).f1.f0, (rd_T48 t311 t319).f1.f1, (rd_T48 t311 t319).f1.f2, (rd_T48 t311 t319).f1.f3, (rd_T48 t311 t319).f1.f4⟩ : S37), t326⟩ : S48) ) (fun _ hk => hk); have hx20_6 := hcc20 6 _ rfl; (try simp only [show (k48).sz = 7 from rfl, Nat.mul_one, Nat.add_zero] at hx20_6); have hf20_6 := hfr20 6; (try simp only [show (k48).sz = 7 from rfl, Nat.mul_one, Nat.add_zero] at hf20_6); clear hcl20 hcc20 hfr20 hM20) | ((with_reducible refine gate_dst (N := 30) rfl ?_); refine Kd.R_lit (Kd.int .i64) _ 2 ?hg (N := 30) ?hd (xs := ([0, 10, 19968, (-1)] : List Int)) (inner := [.int .i64 0, .int .i64 10, .int .i64 19968, .int .i64 (-1)]) (ok := fun _ => True) (okp := fun _ => True) ?hr ?hp (fun _ hk => hk) trivial (Below.refl _ _) (Nat.le_refl _) (by simp) ?_; (case hd => rfl); (case hg => rfl); (case hr => first | (go_simp; done) | (go_simp; rfl)); (case hp => exact (Reps.one (show Kd.M (Kd.int .i64) _ _ _ 0 [.int .i64 0] from rfl) (Reps.one (show Kd.M (Kd.int .i64) _ _ _ 10 [.int .i64 10] from rfl) (Reps.one (show Kd.M (Kd.int .i64) _ _ _ 19968 [.int .i64 19968] from rfl) (Reps.one (show Kd.M (Kd.int .i64) _ _ _ (-1) [.int .i64 (-1)] from rfl) (Reps.none _ _)))))); intro v331 w33 ho34 hb hg_ hnew_; clear hg_ hnew_; (first | rw [← Ny330.out] at ho34 | (simp only [Int.reduceToNat] at ho34; rw [← Ny330.out] at ho34)); have n0_ := am (Kd.R_below (rr HO313) hb); have n1_ := am (Kd.R_lower ho34 (keep_size (w := w) (g := g) (row := none) (rkk HK))); have n2_ := am (IsS87.below (ri87 HI0) hb); have n3_ := am (KeepBut.trans (rkk HK) (KeepBut.of_below hb g none) (.inl rfl)); have n4_ := am (below_step (rbi87 HB HI0 IsS87.ge) hb); clear HO313; clear HI0; clear HK; clear HB; have HO313 := n0_; have HO332 := n1_; have HI0 := n2_; have HK := n3_; have HB := n4_; clear n0_ n1_ n2_ n3_ n4_; clear hb ho34) | ((with_reducible refine gate_store (t := 37) (p := 43) rfl ?_); refine store_event (t := 37) (p := 43) (v := ?vo_w50) (w1 := (((((w48.setCell ⟨go41, (t319 : Int).toNat * 7 + 1, none⟩ (.int .i64 t338)).setCell ⟨go41, (t319 : Int).toNat * 7 + 2, none⟩ (.int .i64 t339)).setCell ⟨go41, (t319 : Int).toNat * 7 + 3, none⟩ (.bool t340)).setCell ⟨go41, (t319 : Int).toNat * 7 + 4, none⟩ (.bool t341)).setCell ⟨go41, (t319 : Int).toNat * 7 + 5, none⟩ (.bool t342))) ?hg ?ho ?hn ?hr ?_; (case ho => rfl); (case hg => rfl); (case hn => rfl); (case hr => first | (go_simp; done) | (go_simp; rfl)); intro w50 hw; have hg : w48.grownBy w50 (some go41) := (by rw [hw]; exact HP49.2); have hp_ : Kd.R k48 48 w50 w.heap.size (fun _ => True) (.slice (some ⟨go41, 0, none⟩) t311.length co16) y345 := (by rw [hw, Ny345.out]; exact HP49.1); clear HP49; have n0_ := am (IsS87.grown (ri87 HI0) hg (IsS87.own_ne HI0.out HO313.out (by decide))); have n1_ := am (hp_); have n2_ := am ((by rw [hw]; exact below_set (below_set (below_set (below_set (below_set (HB.out) (Nat.le_trans HL.out GB41.out)) (Nat.le_trans HL.out GB41.out)) (Nat.le_trans HL.out GB41.out)) (Nat.le_trans HL.out GB41.out)) (Nat.le_trans HL.out GB41.out) : Below w0.heap.size w0 w50)); have n3_ := am (KeepBut.trans (rkk HK) (KeepBut.of_grown hg g) (Kd.R_base2 HO313.out)); clear HI0; clear HO313; clear HB; clear HK; have HI0 := n0_; have HO313 := n1_; have HB := n2_; have HK := n3_; clear n0_ n1_ n2_ n3_; clear hg hw hp_) | ((with_reducible refine gate_callee (f := 46) rfl ?_); refine gl_ (some 16) Tryd.func46 #[.pointer (some ⟨g, 0, none⟩), .int .i64 (t311.length : Int)] ?_; (with_reducible refine (spec_l1Below.calls g s0_0 t317 t318 (t311.length : Int) t319 t320 t321 w0 _ ?side1 ?side2 A6.out).mono ?_); (case side1 => exact ri87 HI0); (case side2 => exact rbi87 HB HI0 IsS87.ge); rintro e w17 ⟨rfl, hi, hb, hk⟩; refine ⟨_, rfl, ?_⟩; have n0_ := am (Kd.R_mono (Kd.R_keep (IsS87.apart (show IsS87 w0 _ g s0_0 t317 t318 from ri87 HI0) (rr HO313) (by decide)) hk (fun _ h => h.2)) (fun _ h => h.1)); have n1_ := am (KeepBut.trans (rkk HK) hk (.inl rfl)); have n2_ := am (hb); have n3_ := am (hi); clear HO313; clear HK; clear HB; clear HI0; have HO313 := n0_; have HK := n1_; have HB := n2_; have HI0 := n3_; clear n0_ n1_ n2_ n3_; (try clear hb); (try clear hb2); (try clear hk); (try clear hi); have p322 : 0 ≤ (t319 : Int) := dt_; have q322 : t319 < (t311.length : Int) := dt_; obtain ⟨ad322, e322, hx322_0, hx322_1, hx322_2, hx322_3, hx322_4, hx322_5, hx322_6⟩ := at_T48 (Kd.R_reads' HO313.out).2.2 t319 p322 q322; cases e322; replace p322 := eq_true p322; replace q322 := eq_true q322) | ((with_reducible refine gate_callee (f := 55) rfl ?_); refine gl_ (some 50) Tryd.func55 #[.int .i64 (wrap64 (60 + t346)), .agg #[.int .i64 0, .int .i64 0, .bool false, .bool false, .bool false]] ?_; (with_reducible refine (spec_l4Row.calls k (wrap64 (60 + t346)) 0 0 false false false t349 _ A53.out).mono ?_); rintro e w61 ⟨v350, rfl, ho0, hb⟩; refine ⟨_, rfl, ?_⟩; have n0_ := am (Kd.R_elder' (rr HO313) (Kd.R_base ho0) hb); have n1_ := am (Kd.R_lower (Kd.R_new' ho0 (Kd.R_lt (rr HO313))) (keep_size (w := w) (g := g) (row := none) (rkk HK))); have n2_ := am (IsS87.below (ri87 HI0) hb); have n3_ := am (KeepBut.trans (rkk HK) (KeepBut.of_below hb g none) (.inl rfl)); have n4_ := am (below_step (rbi87 HB HI0 IsS87.ge) hb); clear HO313; clear HI0; clear HK; clear HB; have HO313 := n0_; have HO351 := n1_; have HI0 := n2_; have HK := n3_; have HB := n4_; clear n0_ n1_ n2_ n3_ n4_; (try clear hb); (try clear hb2); (try clear hk); (try clear hi); (try clear ho0)) | ((with_reducible refine gate_store (t := 2) (p := 36) rfl ?_); refine store_event (t := 2) (p := 36) (v := ?vo_w38) (w1 := (w35.setCell ⟨go26, (t319 : Int).toNat * 7, none⟩ (.int .i64 (rd y330 t333)))) ?hg ?ho ?hn ?hr ?_; (case ho => rfl); (case hg => rfl); (case hn => rfl); (case hr => first | (go_simp; done) | (go_simp; rfl)); intro w38 hw; have hg : w35.grownBy w38 (some go26) := (by rw [hw]; exact HP37.2); have hp_ : Kd.R k48 48 w38 w.heap.size (fun _ => True) (.slice (some ⟨go26, 0, none⟩) t311.length co16) y337 := (by rw [hw, Ny337.out]; exact HP37.1); clear HP37; have n0_ := am (IsS87.grown (ri87 HI0) hg (IsS87.own_ne HI0.out HO313.out (by decide))); have n1_ := am (hp_); have n2_ := am (Kd.R_over' (v := (.slice (some ⟨go26, 0, none⟩) t311.length co16)) (rr HO332) (Kd.R_typed HO313.out) (by decide) hg); have n3_ := am ((by rw [hw]; exact below_set (HB.out) (Nat.le_trans HL.out GB26.out) : Below w0.heap.size w0 w38)); have n4_ := am (KeepBut.trans (rkk HK) (KeepBut.of_grown hg g) (Kd.R_base2 HO313.out)); clear HI0; clear HO313; clear HO332; clear HB; clear HK; have HI0 := n0_; have HO313 := n1_; have HO332 := n2_; have HB := n3_; have HK := n4_; clear n0_ n1_ n2_ n3_ n4_; clear hg hw hp_) | ((with_reducible refine gate_callee (f := 37) rfl ?_); refine gl_ (some 11) Tryd.func37 #[.pointer (some ⟨g, 0, none⟩), .int .i64 12] ?_; (with_reducible refine (spec_l1Once.calls g s0_0 t314 t315 12 true t317 t318 w0 _ ?side1 ?side2 A4.out).mono ?_); (case side1 => exact ri87 HI0); (case side2 => exact rbi87 HB HI0 IsS87.ge); rintro e w15 ⟨rfl, hi, hb, hk⟩; refine ⟨_, rfl, ?_⟩; have n0_ := am (Kd.R_mono (Kd.R_keep (IsS87.apart (show IsS87 w0 _ g s0_0 t314 t315 from ri87 HI0) (rr HO313) (by decide)) hk (fun _ h => h.2)) (fun _ h => h.1)); have n1_ := am (KeepBut.trans (rkk HK) hk (.inl rfl)); have n2_ := am (hb); have n3_ := am (hi); clear HO313; clear HK; clear HB; clear HI0; have HO313 := n0_; have HK := n1_; have HB := n2_; have HI0 := n3_; clear n0_ n1_ n2_ n3_; (try clear hb); (try clear hb2); (try clear hk); (try clear hi); obtain ⟨Ao16, co16, eo16⟩ := Kd.R_slice HO313.out; subst eo16) | ((with_reducible refine gate_callee (f := 37) rfl ?_); refine gl_ (some 11) Tryd.func37 #[.pointer (some ⟨g, 0, none⟩), .int .i64 12] ?_; (with_reducible refine (spec_l1Once.calls g s0_0 t314 t315 12 false t317 t318 w0 _ ?side1 ?side2 A4.out).mono ?_); (case side1 => exact ri87 HI0); (case side2 => exact rbi87 HB HI0 IsS87.ge); rintro e w70 ⟨rfl, hi, hb, hk⟩; refine ⟨_, rfl, ?_⟩; have n0_ := am (Kd.R_mono (Kd.R_keep (IsS87.apart (show IsS87 w0 _ g s0_0 t314 t315 from ri87 HI0) (rr HO313) (by decide)) hk (fun _ h => h.2)) (fun _ h => h.1)); have n1_ := am (KeepBut.trans (rkk HK) hk (.inl rfl)); have n2_ := am (hb); have n3_ := am (hi); clear HO313; clear HK; clear HB; clear HI0; have HO313 := n0_; have HK := n1_; have HB := n2_; have HI0 := n3_; clear n0_ n1_ n2_ n3_; (try clear hb); (try clear hb2); (try clear hk); (try clear hi)) | ((with_reducible refine gate_callee (f := 46) rfl ?_); refine gl_ (some 47) Tryd.func46 #[.pointer (some ⟨g, 0, none⟩), .int .i64 2] ?_; (with_reducible refine (spec_l1Below.calls g s0_0 t324 t325 2 t346 t347 t348 w0 _ ?side1 ?side2 A52.out).mono ?_); (case side1 => exact ri87 HI0); (case side2 => exact rbi87 HB HI0 IsS87.ge); rintro e w60 ⟨rfl, hi, hb, hk⟩; refine ⟨_, rfl, ?_⟩; have n0_ := am (Kd.R_mono (Kd.R_keep (IsS87.apart (show IsS87 w0 _ g s0_0 t324 t325 from ri87 HI0) (rr HO313) (by decide)) hk (fun _ h => h.2)) (fun _ h => h.1)); have n1_ := am (KeepBut.trans (rkk HK) hk (.inl rfl)); have n2_ := am (hb); have n3_ := am (hi); clear HO313; clear HK; clear HB; clear HI0; have HO313 := n0_; have HK := n1_; have HB := n2_; have HI0 := n3_; clear n0_ n1_ n2_ n3_; (try clear hb); (try clear hb2); (try clear hk); (try clear hi)) | ((with_reducible refine gate_callee (f := 46) rfl ?_); refine gl_ (some 19) Tryd.func46 #[.pointer (some ⟨g, 0, none⟩), .int .i64 4] ?_; (with_reducible refine (spec_l1Below.calls g s0_0 t320 t321 4 t323 t324 t325 w0 _ ?side1 ?side2 A9.out).mono ?_); (case side1 => exact ri87 HI0); (case side2 => exact rbi87 HB HI0 IsS87.ge); rintro e w18 ⟨rfl, hi, hb, hk⟩; refine ⟨_, rfl, ?_⟩; have n0_ := am (Kd.R_mono (Kd.R_keep (IsS87.apart (show IsS87 w0 _ g s0_0 t320 t321 from ri87 HI0) (rr HO313) (by decide)) hk (fun _ h => h.2)) (fun _ h => h.1)); have n1_ := am (KeepBut.trans (rkk HK) hk (.inl rfl)); have n2_ := am (hb); have n3_ := am (hi); clear HO313; clear HK; clear HB; clear HI0; have HO313 := n0_; have HK := n1_; have HB := n2_; have HI0 := n3_; clear n0_ n1_ n2_ n3_; (try clear hb); (try clear hb2); (try clear hk); (try clear hi)) | ((with_reducible refine gate_callee (f := 67) rfl ?_); refine gl_ (some 9) Tryd.func67 #[.pointer (some ⟨g, 0, none⟩), .int .i64 (wrap64 (1 + t308))] ?_; (with_reducible refine (spec_l4Draw.calls k g s0_0 t309 t310 (wrap64 (1 + t308)) t311 t314 t315 w0 _ ?side1 ?side2 A3.out).mono ?_); (case side1 => exact ri87 HI0); (case side2 => exact rbi87 HB HI0 IsS87.ge); rintro e w14 ⟨v312, rfl, ho0, hi, hb, hk⟩; refine ⟨_, rfl, ?_⟩; have n0_ := am (Kd.R_lower ho0 (keep_size (w := w) (g := g) (row := none) (rkk HK))); have n1_ := am (KeepBut.trans (rkk HK) hk (.inl rfl)); have n2_ := am (hb); have n3_ := am (hi); clear HK; clear HB; clear HI0; have HO313 := n0_; have HK := n1_; have HB := n2_; have HI0 := n3_; clear n0_ n1_ n2_ n3_; (try clear hb); (try clear hb2); (try clear hk); (try clear hi); (try clear ho0)) | ((with_reducible refine gate_store (t := 2) (p := 26) rfl ?_); refine store_event (t := 2) (p := 26) (v := ?vo_w21) (w1 := (w19.setCell ⟨go12, (t319 : Int).toNat * 7 + 6, none⟩ (.int .i64 t326))) ?hg ?ho ?hn ?hr ?_; (case ho => rfl); (case hg => rfl); (case hn => rfl); (case hr => first | (go_simp; done) | (go_simp; rfl)); intro w21 hw; have hg : w19.grownBy w21 (some go12) := (by rw [hw]; exact HP20.2); have hp_ : Kd.R k48 48 w21 w.heap.size (fun _ => True) (.slice (some ⟨go12, 0, none⟩) t311.length co16) y329 := (by rw [hw, Ny329.out]; exact HP20.1); clear HP20; have n0_ := am (IsS87.grown (ri87 HI0) hg (IsS87.own_ne HI0.out HO313.out (by decide))); have n1_ := am (hp_); have n2_ := am ((by rw [hw]; exact below_set (HB.out) (Nat.le_trans HL.out GB12.out) : Below w0.heap.size w0 w21)); have n3_ := am (KeepBut.trans (rkk HK) (KeepBut.of_grown hg g) (Kd.R_base2 HO313.out)); clear HI0; clear HO313; clear HB; clear HK; have HI0 := n0_; have HO313 := n1_; have HB := n2_; have HK := n3_; clear n0_ n1_ n2_ n3_; clear hg hw hp_) | ((with_reducible refine gate_callee (f := 46) rfl ?_); refine gl_ (some 7) Tryd.func46 #[.pointer (some ⟨g, 0, none⟩), .int .i64 9] ?_; (with_reducible refine (spec_l1Below.calls g s0_0 s0_1 s0_2 9 t308 t309 t310 w0 _ ?side1 ?side2 A2.out).mono ?_); (case side1 => exact ri87 HI0); (case side2 => exact rbi87 HB HI0 IsS87.ge); rintro e w13 ⟨rfl, hi, hb, hk⟩; refine ⟨_, rfl, ?_⟩; have n0_ := am (KeepBut.trans (rkk HK) hk (.inl rfl)); have n1_ := am (hb); have n2_ := am (hi); clear HK; clear HB; clear HI0; have HK := n0_; have HB := n1_; have HI0 := n2_; clear n0_ n1_ n2_; (try clear hb); (try clear hb2); (try clear hk); (try clear hi)))
  go_ret
  first
  | (
    first | have q_ := lf1_ | have q_ := lf2_ | have q_ := lf3_ | have q_ := lf5_ | have q_ := lf6_
    exact ⟨_, by first | rfl | (simp [errW_none, errW_some] <;> rfl) | (simp [*, errW_none, errW_some] <;> rfl), by (with_reducible repeat (first | apply r1 | apply r2 | apply r3)); exact HO313.out, ri87 HI0, rbi87 HB HI0 IsS87.ge, rkk HK⟩
    )
  | (
    have q_ := lf4_
    exact ⟨_, by first | rfl | (simp [errW_none, errW_some] <;> rfl) | (simp [*, errW_none, errW_some] <;> rfl), by (with_reducible repeat (first | apply r1 | apply r2 | apply r3)); exact Kd.R_mono HO351.out (fun _ hk => trivial), ri87 HI0, rbi87 HB HI0 IsS87.ge, rkk HK⟩
    )

/-! ### spec_l1DrawRune: function 38 -/
def spec_l1DrawRune.f (s0_0 : List Int) (s0_1 : Int) (s0_2 : Int) : Option (Int × Int × Int) := (some (([65, 97, 98, 32, 233, 19968, 128512, 769, 10, 27, 127, 65533] : List Int) : List Int)).bind fun y352 => ((spec_l1Below.f s0_0 s0_1 s0_2 12).bind fun bt355 => (if 0 ≤ bt355.1 then (if bt355.1 < (y352.length : Int) then (some (rd y352 bt355.1, bt355.2.1, bt355.2.2)) else (none)) else (none)))
set_option maxHeartbeats 8000000 in
set_option maxRecDepth 100000 in
theorem spec_l1DrawRune.calls (g : Nat) (s0_0 : List Int) (s0_1 : Int) (s0_2 : Int) (r1 : Int) (r2 : Int) (r3 : Int) (w0 w : World) (hI : IsS87 w0 w g s0_0 s0_1 s0_2) (hB : Below w0.heap.size w0 w) (h : spec_l1DrawRune.f s0_0 s0_1 s0_2 = some (r1, r2, r3)) :
  Calls Tryd.prog 38 #[.pointer (some ⟨g, 0, none⟩)] w fun e w' => e = .returned (.int .i64 r1) ∧ IsS87 w0 w' g s0_0 r2 r3 ∧ Below w0.heap.size w0 w' ∧ KeepBut w w' g none := by
 have HI0 := am hI
 have HK := am (KeepBut.refl w g none)
 have HL := am hB.size
 clear hI
 have HW0 := am hB.size
 have HB := am hB
 clear hB
 have H := h
 unfold spec_l1DrawRune.f at H
 clear h
 obtain ⟨y352, hy352⟩ : ∃ y_ : List Int, y_ = (([65, 97, 98, 32, 233, 19968, 128512, 769, 10, 27, 127, 65533] : List Int)) := ⟨_, rfl⟩
 replace H : ((spec_l1Below.f s0_0 s0_1 s0_2 12).bind fun bt355 => (if 0 ≤ bt355.1 then (if bt355.1 < (y352.length : Int) then (some (rd y352 bt355.1, bt355.2.1, bt355.2.2)) else (none)) else (none))) = some (r1, r2, r3) := by first | (rw [hy352]; with_reducible exact H) | (rw [hy352]; exact H) | exact H
 have Ny352 := am hy352
 clear hy352
 replace H := Option.bind_eq_some_iff.mp H
 obtain ⟨⟨t355, t356, t357⟩, A20, H⟩ := H
 (try dsimp only at H)
 have A2 := am A20
 clear A20
 refine em_ (p := 0 ≤ t355) (fun c3 => ?g10p) (fun c3 => ?g10n)
 case' g10p =>
  rw [if_pos c3] at H
  have c3b0 : decide (0 ≤ t355) = true := decide_eq_true c3
  clear c3
  refine em_ (p := t355 < (y352.length : Int)) (fun c4 => ?g9p) (fun c4 => ?g9n)
  case' g9p =>
   rw [if_pos c4] at H
   have c4b0 : decide (t355 < (y352.length : Int)) = true := decide_eq_true c4
   clear c4
   simp only [Option.some.injEq, Prod.mk.injEq] at H
   obtain ⟨rfl, rfl, rfl⟩ := H
   have lf7_ := trivial
  case g9n =>
   rw [if_neg c4] at H
   exact absurd H (by simp)
 case g10n =>
  rw [if_neg c3] at H
  exact absurd H (by simp)
 all_goals
  go_enter Tryd.func38, Tryd.ntmps38
  go_wp2_with (first | ((with_reducible refine gate_dst (N := 3) rfl ?_); refine Kd.R_lit (Kd.int .i64) _ 2 ?hg (N := 3) ?hd (xs := ([65, 97, 98, 32, 233, 19968, 128512, 769, 10, 27, 127, 65533] : List Int)) (inner := [.int .i64 65, .int .i64 97, .int .i64 98, .int .i64 32, .int .i64 233, .int .i64 19968, .int .i64 128512, .int .i64 769, .int .i64 10, .int .i64 27, .int .i64 127, .int .i64 65533]) (ok := fun _ => True) (okp := fun _ => True) ?hr ?hp (fun _ hk => hk) trivial (Below.refl _ _) (Nat.le_refl _) (by simp) ?_; (case hd => rfl); (case hg => rfl); (case hr => first | (go_simp; done) | (go_simp; rfl)); (case hp => exact (Reps.one (show Kd.M (Kd.int .i64) _ _ _ 65 [.int .i64 65] from rfl) (Reps.one (show Kd.M (Kd.int .i64) _ _ _ 97 [.int .i64 97] from rfl) (Reps.one (show Kd.M (Kd.int .i64) _ _ _ 98 [.int .i64 98] from rfl) (Reps.one (show Kd.M (Kd.int .i64) _ _ _ 32 [.int .i64 32] from rfl) (Reps.one (show Kd.M (Kd.int .i64) _ _ _ 233 [.int .i64 233] from rfl) (Reps.one (show Kd.M (Kd.int .i64) _ _ _ 19968 [.int .i64 19968] from rfl) (Reps.one (show Kd.M (Kd.int .i64) _ _ _ 128512 [.int .i64 128512] from rfl) (Reps.one (show Kd.M (Kd.int .i64) _ _ _ 769 [.int .i64 769] from rfl) (Reps.one (show Kd.M (Kd.int .i64) _ _ _ 10 [.int .i64 10] from rfl) (Reps.one (show Kd.M (Kd.int .i64) _ _ _ 27 [.int .i64 27] from rfl) (Reps.one (show Kd.M (Kd.int .i64) _ _ _ 127 [.int .i64 127] from rfl) (Reps.one (show Kd.M (Kd.int .i64) _ _ _ 65533 [.int .i64 65533] from rfl) (Reps.none _ _)))))))))))))); intro v353 w5 ho6 hb hg_ hnew_; clear hg_ hnew_; (first | rw [← Ny352.out] at ho6 | (simp only [Int.reduceToNat] at ho6; rw [← Ny352.out] at ho6)); have n0_ := am (Kd.R_lower ho6 (keep_size (w := w) (g := g) (row := none) (rkk HK))); have n1_ := am (IsS87.below (ri87 HI0) hb); have n2_ := am (KeepBut.trans (rkk HK) (KeepBut.of_below hb g none) (.inl rfl)); have n3_ := am (below_step (rbi87 HB HI0 IsS87.ge) hb); clear HI0; clear HK; clear HB; have HO354 := n0_; have HI0 := n1_; have HK := n2_; have HB := n3_; clear n0_ n1_ n2_ n3_; clear hb ho6) | ((with_reducible refine gate_callee (f := 46) rfl ?_); refine gl_ (some 5) Tryd.func46 #[.pointer (some ⟨g, 0, none⟩), .int .i64 12] ?_; (with_reducible refine (spec_l1Below.calls g s0_0 s0_1 s0_2 12 t355 t356 t357 w0 _ ?side1 ?side2 A2.out).mono ?_); (case side1 => exact ri87 HI0); (case side2 => exact rbi87 HB HI0 IsS87.ge); rintro e w7 ⟨rfl, hi, hb, hk⟩; refine ⟨_, rfl, ?_⟩; have n0_ := am (Kd.R_mono (Kd.R_keep (IsS87.apart (show IsS87 w0 _ g s0_0 s0_1 s0_2 from ri87 HI0) (rr HO354) (by decide)) hk (fun _ h => h.2)) (fun _ h => h.1)); have n1_ := am (KeepBut.trans (rkk HK) hk (.inl rfl)); have n2_ := am (hb); have n3_ := am (hi); clear HO354; clear HK; clear HB; clear HI0; have HO354 := n0_; have HK := n1_; have HB := n2_; have HI0 := n3_; clear n0_ n1_ n2_ n3_; (try clear hb); (try clear hb2); (try clear hk); (try clear hi); obtain ⟨Ao8, co8, eo8⟩ := Kd.R_slice HO354.out; subst eo8; have p358 : 0 ≤ (t355 : Int) := dt_; have q358 : t355 < (y352.length : Int) := dt_; obtain ⟨ad358, e358, hx358_0⟩ := Kd.at_int (Kd.R_reads' HO354.out).2.2 t355 p358 q358; cases e358; replace p358 := eq_true p358; replace q358 := eq_true q358))
  go_ret
  exact ⟨by first | rfl | (simp [errW_none, errW_some] <;> rfl) | (simp [*, errW_none, errW_some] <;> rfl), ri87 HI0, rbi87 HB HI0 IsS87.ge, rkk HK⟩

/-! ### spec_l1Max: function 69 -/
def spec_l1Max.f (a0 : Int) (a1 : Int) : Option (Int) := if a0 > a1 then (some a0) else (some a1)
set_option maxHeartbeats 8000000 in
set_option maxRecDepth 100000 in
theorem spec_l1Max.calls (a0 : Int) (a1 : Int) (r : Int) (w : World) (h : spec_l1Max.f a0 a1 = some r) :
  Calls Tryd.prog 69 #[.int .i64 a0, .int .i64 a1] w fun e w' => e = .returned (.int .i64 r) ∧ Drawn0 w w' := by
 have H : (if a0 > a1 then (some a0) else (some a1)) = some r := h
 clear h
 by_cases c3 : a0 > a1
 ·rw [if_pos c3] at H
  have c3b0 : decide (a1 < a0) = true := decide_eq_true c3
  clear c3
  obtain rfl := Option.some.inj H
  go_enter Tryd.func69, Tryd.ntmps69
  go_wp2
  go_ret
  exact ⟨by first | rfl | (simp; done) | (simp [*]; done), by repeat (first | exact Drawn0.refl _ | apply Drawn0.step)⟩
 ·rw [if_neg c3] at H
  have c3b0 : decide (a1 < a0) = false := decide_eq_false c3
  clear c3
  obtain rfl := Option.some.inj H
  go_enter Tryd.func69, Tryd.ntmps69
  go_wp2
  go_ret
  exact ⟨by first | rfl | (simp; done) | (simp [*]; done), by repeat (first | exact Drawn0.refl _ | apply Drawn0.step)⟩

/-! ### spec_l4DrawAt: function 39 -/
def spec_l4DrawAt.f (s0_0 : List Int) (s0_1 : Int) (s0_2 : Int) (a1 : Int) : Option (Int × Int × Int) := (spec_l1Once.f s0_0 s0_1 s0_2 12).bind fun bt359 => (if bt359.1 = true then ((some (([(-1), a1, wrap64 (a1 + 1), 4611686018427387904, (-9223372036854775808)] : List Int) : List Int)).bind fun y362 => ((spec_l1Below.f s0_0 bt359.2.1 bt359.2.2 5).bind fun bt365 => (if 0 ≤ bt365.1 then (if bt365.1 < (y362.length : Int) then (some (rd y362 bt365.1, bt365.2.1, bt365.2.2)) else (none)) else (none)))) else ((spec_l1Max.f 1 a1).bind fun t369 => ((spec_l1Below.f s0_0 bt359.2.1 bt359.2.2 t369).bind fun bt370 => (some (bt370.1, bt370.2.1, bt370.2.2)))))
set_option maxHeartbeats 8000000 in
set_option maxRecDepth 100000 in
theorem spec_l4DrawAt.calls (g : Nat) (s0_0 : List Int) (s0_1 : Int) (s0_2 : Int) (a1 : Int) (r1 : Int) (r2 : Int) (r3 : Int) (w0 w : World) (hI : IsS87 w0 w g s0_0 s0_1 s0_2) (hB : Below w0.heap.size w0 w) (h : spec_l4DrawAt.f s0_0 s0_1 s0_2 a1 = some (r1, r2, r3)) :
  Calls Tryd.prog 39 #[.pointer (some ⟨g, 0, none⟩), .int .i64 a1] w fun e w' => e = .returned (.int .i64 r1) ∧ IsS87 w0 w' g s0_0 r2 r3 ∧ Below w0.heap.size w0 w' ∧ KeepBut w w' g none := by
 have HI0 := am hI
 have HK := am (KeepBut.refl w g none)
 have HL := am hB.size
 clear hI
 have HW0 := am hB.size
 have HB := am hB
 clear hB
 have H := h
 unfold spec_l4DrawAt.f at H
 clear h
 replace H := Option.bind_eq_some_iff.mp H
 obtain ⟨⟨t359, t360, t361⟩, A30, H⟩ := H
 (try dsimp only at H)
 have A3 := am A30
 clear A30
 refine em_ (p := t359 = true) (fun c4 => ?g13p) (fun c4 => ?g13n)
 case' g13p =>
  subst c4
  rw [if_pos rfl] at H
  obtain ⟨y362, hy362⟩ : ∃ y_ : List Int, y_ = (([(-1), a1, wrap64 (a1 + 1), 4611686018427387904, (-9223372036854775808)] : List Int)) := ⟨_, rfl⟩
  replace H : ((spec_l1Below.f s0_0 t360 t361 5).bind fun bt365 => (if 0 ≤ bt365.1 then (if bt365.1 < (y362.length : Int) then (some (rd y362 bt365.1, bt365.2.1, bt365.2.2)) else (none)) else (none))) = some (r1, r2, r3) := by first | (rw [hy362]; with_reducible exact H) | (rw [hy362]; exact H) | exact H
  have Ny362 := am hy362
  clear hy362
  replace H := Option.bind_eq_some_iff.mp H
  obtain ⟨⟨t365, t366, t367⟩, A50, H⟩ := H
  (try dsimp only at H)
  have A5 := am A50
  clear A50
  refine em_ (p := 0 ≤ t365) (fun c6 => ?g12p) (fun c6 => ?g12n)
  case' g12p =>
   rw [if_pos c6] at H
   have c6b0 : decide (0 ≤ t365) = true := decide_eq_true c6
   clear c6
   refine em_ (p := t365 < (y362.length : Int)) (fun c7 => ?g11p) (fun c7 => ?g11n)
   case' g11p =>
    rw [if_pos c7] at H
    have c7b0 : decide (t365 < (y362.length : Int)) = true := decide_eq_true c7
    clear c7
    simp only [Option.some.injEq, Prod.mk.injEq] at H
    obtain ⟨rfl, rfl, rfl⟩ := H
    have lf8_ := trivial
   case g11n =>
    rw [if_neg c7] at H
    exact absurd H (by simp)
  case g12n =>
   rw [if_neg c6] at H
   exact absurd H (by simp)
 case' g13n =>
  replace c4 := Bool.eq_false_iff.mpr c4
  subst c4
  rw [if_neg (show ¬ (false = true) by decide)] at H
  replace H := Option.bind_eq_some_iff.mp H
  obtain ⟨t369, A130, H⟩ := H
  (try dsimp only at H)
  have A13 := am A130
  clear A130
  replace H := Option.bind_eq_some_iff.mp H
  obtain ⟨⟨t370, t371, t372⟩, A140, H⟩ := H
  (try dsimp only at H)
  have A14 := am A140
  clear A140
  simp only [Option.some.injEq, Prod.mk.injEq] at H
  obtain ⟨rfl, rfl, rfl⟩ := H
  have lf9_ := trivial
 all_goals
  go_enter Tryd.func39, Tryd.ntmps39
  go_wp2_with (first | ((with_reducible refine gate_dst (N := 10) rfl ?_); refine Kd.R_lit (Kd.int .i64) _ 2 ?hg (N := 10) ?hd (xs := ([(-1), a1, wrap64 (a1 + 1), 4611686018427387904, (-9223372036854775808)] : List Int)) (inner := [.int .i64 (-1), .int .i64 a1, .int .i64 (wrap64 (a1 + 1)), .int .i64 4611686018427387904, .int .i64 (-9223372036854775808)]) (ok := fun _ => True) (okp := fun _ => True) ?hr ?hp (fun _ hk => hk) trivial (Below.refl _ _) (Nat.le_refl _) (by simp) ?_; (case hd => rfl); (case hg => rfl); (case hr => first | (go_simp; done) | (go_simp; rfl)); (case hp => exact (Reps.one (show Kd.M (Kd.int .i64) _ _ _ (-1) [.int .i64 (-1)] from rfl) (Reps.one (show Kd.M (Kd.int .i64) _ _ _ a1 [.int .i64 a1] from rfl) (Reps.one (show Kd.M (Kd.int .i64) _ _ _ (wrap64 (a1 + 1)) [.int .i64 (wrap64 (a1 + 1))] from rfl) (Reps.one (show Kd.M (Kd.int .i64) _ _ _ 4611686018427387904 [.int .i64 4611686018427387904] from rfl) (Reps.one (show Kd.M (Kd.int .i64) _ _ _ (-9223372036854775808) [.int .i64 (-9223372036854775808)] from rfl) (Reps.none _ _))))))); intro v363 w9 ho10 hb hg_ hnew_; clear hg_ hnew_; (first | rw [← Ny362.out] at ho10 | (simp only [Int.reduceToNat] at ho10; rw [← Ny362.out] at ho10)); have n0_ := am (Kd.R_lower ho10 (keep_size (w := w) (g := g) (row := none) (rkk HK))); have n1_ := am (IsS87.below (ri87 HI0) hb); have n2_ := am (KeepBut.trans (rkk HK) (KeepBut.of_below hb g none) (.inl rfl)); have n3_ := am (below_step (rbi87 HB HI0 IsS87.ge) hb); clear HI0; clear HK; clear HB; have HO364 := n0_; have HI0 := n1_; have HK := n2_; have HB := n3_; clear n0_ n1_ n2_ n3_; clear hb ho10) | ((with_reducible refine gate_callee (f := 46) rfl ?_); refine gl_ (some 12) Tryd.func46 #[.pointer (some ⟨g, 0, none⟩), .int .i64 5] ?_; (with_reducible refine (spec_l1Below.calls g s0_0 t360 t361 5 t365 t366 t367 w0 _ ?side1 ?side2 A5.out).mono ?_); (case side1 => exact ri87 HI0); (case side2 => exact rbi87 HB HI0 IsS87.ge); rintro e w11 ⟨rfl, hi, hb, hk⟩; refine ⟨_, rfl, ?_⟩; have n0_ := am (Kd.R_mono (Kd.R_keep (IsS87.apart (show IsS87 w0 _ g s0_0 t360 t361 from ri87 HI0) (rr HO364) (by decide)) hk (fun _ h => h.2)) (fun _ h => h.1)); have n1_ := am (KeepBut.trans (rkk HK) hk (.inl rfl)); have n2_ := am (hb); have n3_ := am (hi); clear HO364; clear HK; clear HB; clear HI0; have HO364 := n0_; have HK := n1_; have HB := n2_; have HI0 := n3_; clear n0_ n1_ n2_ n3_; (try clear hb); (try clear hb2); (try clear hk); (try clear hi); obtain ⟨Ao12, co12, eo12⟩ := Kd.R_slice HO364.out; subst eo12; have p368 : 0 ≤ (t365 : Int) := dt_; have q368 : t365 < (y362.length : Int) := dt_; obtain ⟨ad368, e368, hx368_0⟩ := Kd.at_int (Kd.R_reads' HO364.out).2.2 t365 p368 q368; cases e368; replace p368 := eq_true p368; replace q368 := eq_true q368) | ((with_reducible refine gate_callee (f := 46) rfl ?_); refine gl_ (some 18) Tryd.func46 #[.pointer (some ⟨g, 0, none⟩), .int .i64 t369] ?_; (with_reducible refine (spec_l1Below.calls g s0_0 t360 t361 t369 t370 t371 t372 w0 _ ?side1 ?side2 A14.out).mono ?_); (case side1 => exact ri87 HI0); (case side2 => exact rbi87 HB HI0 IsS87.ge); rintro e w16 ⟨rfl, hi, hb, hk⟩; refine ⟨_, rfl, ?_⟩; have n0_ := am (KeepBut.trans (rkk HK) hk (.inl rfl)); have n1_ := am (hb); have n2_ := am (hi); clear HK; clear HB; clear HI0; have HK := n0_; have HB := n1_; have HI0 := n2_; clear n0_ n1_ n2_; (try clear hb); (try clear hb2); (try clear hk); (try clear hi)) | ((with_reducible refine gate_callee (f := 37) rfl ?_); refine gl_ (some 6) Tryd.func37 #[.pointer (some ⟨g, 0, none⟩), .int .i64 12] ?_; (with_reducible refine (spec_l1Once.calls g s0_0 s0_1 s0_2 12 false t360 t361 w0 _ ?side1 ?side2 A3.out).mono ?_); (case side1 => exact ri87 HI0); (case side2 => exact rbi87 HB HI0 IsS87.ge); rintro e w15 ⟨rfl, hi, hb, hk⟩; refine ⟨_, rfl, ?_⟩; have n0_ := am (KeepBut.trans (rkk HK) hk (.inl rfl)); have n1_ := am (hb); have n2_ := am (hi); clear HK; clear HB; clear HI0; have HK := n0_; have HB := n1_; have HI0 := n2_; clear n0_ n1_ n2_; (try clear hb); (try clear hb2); (try clear hk); (try clear hi)) | ((with_reducible refine gate_callee (f := 37) rfl ?_); refine gl_ (some 6) Tryd.func37 #[.pointer (some ⟨g, 0, none⟩), .int .i64 12] ?_; (with_reducible refine (spec_l1Once.calls g s0_0 s0_1 s0_2 12 true t360 t361 w0 _ ?side1 ?side2 A3.out).mono ?_); (case side1 => exact ri87 HI0); (case side2 => exact rbi87 HB HI0 IsS87.ge); rintro e w8 ⟨rfl, hi, hb, hk⟩; refine ⟨_, rfl, ?_⟩; have n0_ := am (KeepBut.trans (rkk HK) hk (.inl rfl)); have n1_ := am (hb); have n2_ := am (hi); clear HK; clear HB; clear HI0; have HK := n0_; have HB := n1_; have HI0 := n2_; clear n0_ n1_ n2_; (try clear hb); (try clear hb2); (try clear hk); (try clear hi)) | ((with_reducible refine gate_callee (f := 69) rfl ?_); refine gl_ (some 17) Tryd.func69 #[.int .i64 1, .int .i64 a1] ?_; (with_reducible refine (spec_l1Max.calls 1 a1 t369 _ A13.out).mono ?_); rintro e w' ⟨rfl, ⟨nd, rfl⟩⟩; refine ⟨_, rfl, ?_⟩))
  go_ret
  exact ⟨by first | rfl | (simp [errW_none, errW_some] <;> rfl) | (simp [*, errW_none, errW_some] <;> rfl), ri87 HI0, rbi87 HB HI0 IsS87.ge, rkk HK⟩

/-! ### spec_DrawWritten: function 11 -/
def spec_DrawWritten.f (k : Nat) (l0 : List Int) : Option ((List (S48)) × Int × Int × Int × Int × Bool × Bool × Bool) := (spec_l1New.f k l0).bind fun bt374 => ((spec_l4DrawAny.f k bt374.1 bt374.2.1 bt374.2.2).bind fun bt378 => ((spec_l4DrawRune.f bt374.1 bt378.2.1 bt378.2.2).bind fun bt383 => ((spec_l1Once.f bt374.1 bt383.2.1 bt383.2.2 12).bind fun bt386 => (if bt386.1 = true then ((spec_l1DrawRune.f bt374.1 bt386.2.1 bt386.2.2).bind fun bt389 => ((spec_l4DrawAt.f bt374.1 bt389.2.1 bt389.2.2 (bt378.1.length : Int)).bind fun bt392 => ((spec_l3DrawAny.f bt374.1 bt392.2.1 bt392.2.2).bind fun bt395 => (some (bt378.1, bt392.1, bt389.1, bt395.1, bt395.2.1, bt395.2.2.1, bt395.2.2.2.1, bt395.2.2.2.2.1))))) else ((spec_l4DrawAt.f bt374.1 bt386.2.1 bt386.2.2 (bt378.1.length : Int)).bind fun bt402 => ((spec_l3DrawAny.f bt374.1 bt402.2.1 bt402.2.2).bind fun bt405 => (some (bt378.1, bt402.1, bt383.1, bt405.1, bt405.2.1, bt405.2.2.1, bt405.2.2.2.1, bt405.2.2.2.2.1))))))))
theorem spec_DrawWritten.mono : ∀ a0 k, LeO (spec_DrawWritten.f k a0) (spec_DrawWritten.f (k + 1) a0) := by
 intro a0 k
 unfold spec_DrawWritten.f
 repeat' first
   | (with_reducible exact spec_l1New.mono _ _)
   | (with_reducible exact spec_l4DrawAny.mono _ _ _ _)
   | (with_reducible exact LeO.refl _)
   | (with_reducible exact LeO.none _)
   | (with_reducible refine LeO.ite ?_ ?_)
   | (with_reducible refine LeO.bind ?_ (fun _ => ?_))
set_option maxHeartbeats 8000000 in
set_option maxRecDepth 100000 in
theorem spec_DrawWritten.calls (k : Nat) (A0 : Option Addr) (c0 : Nat) (l0 : List Int) (r1 : List (S48)) (r2 : Int) (r3 : Int) (r4 : Int) (r5 : Int) (r6 : Bool) (r7 : Bool) (r8 : Bool) (w : World) (hr0 : Kd.C (Kd.int .u8) w A0 l0.length l0) (hc0 : l0.length ≤ c0) (h : spec_DrawWritten.f k l0 = some (r1, r2, r3, r4, r5, r6, r7, r8)) :
  Calls Tryd.prog 11 #[.slice A0 l0.length c0] w fun e w' => ∃ v0_ : Value, e = .returned (.tuple #[v0_, .int .i64 r2, .int .i64 r3, .agg #[.int .i64 r4, .int .i64 r5, .bool r6, .bool r7, .bool r8]]) ∧ Kd.R k48 48 w' w.heap.size (fun _ => True) v0_ r1 ∧ Below w.heap.size w w' := by
 have hu37 := Tryd.underlying37
 have HR0 := am hr0
 have HC0 := am hc0
 clear hr0 hc0
 have HB := am (Below.refl w.heap.size w)
 have H := h
 unfold spec_DrawWritten.f at H
 clear h
 replace H := Option.bind_eq_some_iff.mp H
 obtain ⟨⟨t374, t375, t376⟩, A20, H⟩ := H
 (try dsimp only at H)
 have A2 := am A20
 clear A20
 replace H := Option.bind_eq_some_iff.mp H
 obtain ⟨⟨t378, t381, t382⟩, A30, H⟩ := H
 (try dsimp only at H)
 have A3 := am A30
 clear A30
 replace H := Option.bind_eq_some_iff.mp H
 obtain ⟨⟨t383, t384, t385⟩, A40, H⟩ := H
 (try dsimp only at H)
 have A4 := am A40
 clear A40
 replace H := Option.bind_eq_some_iff.mp H
 obtain ⟨⟨t386, t387, t388⟩, A50, H⟩ := H
 (try dsimp only at H)
 have A5 := am A50
 clear A50
 refine em_ (p := t386 = true) (fun c6 => ?g14p) (fun c6 => ?g14n)
 case' g14p =>
  subst c6
  rw [if_pos rfl] at H
  replace H := Option.bind_eq_some_iff.mp H
  obtain ⟨⟨t389, t390, t391⟩, A70, H⟩ := H
  (try dsimp only at H)
  have A7 := am A70
  clear A70
  replace H := Option.bind_eq_some_iff.mp H
  obtain ⟨⟨t392, t393, t394⟩, A80, H⟩ := H
  (try dsimp only at H)
  have A8 := am A80
  clear A80
  replace H := Option.bind_eq_some_iff.mp H
  obtain ⟨⟨t395, t396, t397, t398, t399, t400, t401⟩, A90, H⟩ := H
  (try dsimp only at H)
  have A9 := am A90
  clear A90
  simp only [Option.some.injEq, Prod.mk.injEq] at H
  obtain ⟨rfl, rfl, rfl, rfl, rfl, rfl, rfl, rfl⟩ := H
  have lf10_ := trivial
 case' g14n =>
  replace c6 := Bool.eq_false_iff.mpr c6
  subst c6
  rw [if_neg (show ¬ (false = true) by decide)] at H
  replace H := Option.bind_eq_some_iff.mp H
  obtain ⟨⟨t402, t393, t394⟩, A210, H⟩ := H
  (try dsimp only at H)
  have A21 := am A210
  clear A210
  replace H := Option.bind_eq_some_iff.mp H
  obtain ⟨⟨t395, t396, t397, t398, t399, t400, t401⟩, A220, H⟩ := H
  (try dsimp only at H)
  have A9 := am A220
  clear A220
  simp only [Option.some.injEq, Prod.mk.injEq] at H
  obtain ⟨rfl, rfl, rfl, rfl, rfl, rfl, rfl, rfl⟩ := H
  have lf11_ := trivial
 all_goals
  go_enter Tryd.func11, Tryd.ntmps11
  go_wp2_with (first | ((with_reducible refine gate_callee (f := 40) rfl ?_); refine gl_ (some 26) Tryd.func40 #[.pointer (some ⟨g377, 0, none⟩)] ?_; (with_reducible refine (spec_l3DrawAny.calls g377 t374 t393 t394 t395 t396 t397 t398 t399 t400 t401 w _ ?side1 ?side2 A9.out).mono ?_); (case side1 => repeat (first | (with_reducible first | exact HI377.out | apply IsS87.alloc | apply IsS87.drewN | apply IsS87.drew | apply IsS87.set_1 | apply IsS87.set_2 | refine IsS87.far ?_ NB377_373.out _) | exact HI377.out)); (case side2 => repeat (first | (with_reducible first | exact HB.out | apply b1 | apply b2 | apply b3 | refine below_set ?_ (IsS87.ge HI377.out) | refine below_set ?_ GE373.out) | exact HB.out)); rintro e w18 ⟨rfl, hi, hb, hk⟩; refine ⟨_, rfl, ?_⟩; have n0_ := am (KeepBut.blk hk (g' := gb373) (o := .cells #[.int .i64 0, .int .i64 0, .bool false, .bool false, .bool false] 37 (0, 0)) (rk BK373) NB373_377.out (by simp)); have n1_ := am (Kd.R_mono (Kd.R_keep (IsS87.apart (show IsS87 w _ g377 t374 t393 t394 from by repeat (first | (with_reducible first | exact HI377.out | apply IsS87.alloc | apply IsS87.drewN | apply IsS87.drew | apply IsS87.set_1 | apply IsS87.set_2 | refine IsS87.far ?_ NB377_373.out _) | exact HI377.out)) (rr HO380) (by decide)) hk (fun _ h => h.2)) (fun _ h => h.1)); have n2_ := am (hb); have n3_ := am (hi); clear BK373; clear HO380; clear HB; clear HI377; have BK373 := n0_; have HO380 := n1_; have HB := n2_; have HI377 := n3_; clear n0_ n1_ n2_ n3_; (try clear hb); (try clear hb2); (try clear hk); (try clear hi); have hnb19 := NB373_377.out; have hnc19 := NB377_373.out; have hcz20_0 : w18.cell? ⟨gb373, 0, none⟩ = some (.int .i64 0) := (blk_cell BK373.out 0).trans rfl; have hcz20_1 : w18.cell? ⟨gb373, 1, none⟩ = some (.int .i64 0) := (blk_cell BK373.out 1).trans rfl; have hcz20_2 : w18.cell? ⟨gb373, 2, none⟩ = some (.bool false) := (blk_cell BK373.out 2).trans rfl; have hcz20_3 : w18.cell? ⟨gb373, 3, none⟩ = some (.bool false) := (blk_cell BK373.out 3).trans rfl; have hcz20_4 : w18.cell? ⟨gb373, 4, none⟩ = some (.bool false) := (blk_cell BK373.out 4).trans rfl; have hfz20_0 := blk_frozen BK373.out 0; have hfz20_1 := blk_frozen BK373.out 1; have hfz20_2 := blk_frozen BK373.out 2; have hfz20_3 := blk_frozen BK373.out 3; have hfz20_4 := blk_frozen BK373.out 4) | ((with_reducible refine gate_callee (f := 37) rfl ?_); refine gl_ (some 16) Tryd.func37 #[.pointer (some ⟨g377, 0, none⟩), .int .i64 12] ?_; (with_reducible refine (spec_l1Once.calls g377 t374 t384 t385 12 false t387 t388 w _ ?side1 ?side2 A5.out).mono ?_); (case side1 => repeat (first | (with_reducible first | exact HI377.out | apply IsS87.alloc | apply IsS87.drewN | apply IsS87.drew | apply IsS87.set_1 | apply IsS87.set_2 | refine IsS87.far ?_ NB377_373.out _) | exact HI377.out)); (case side2 => repeat (first | (with_reducible first | exact HB.out | apply b1 | apply b2 | apply b3 | refine below_set ?_ (IsS87.ge HI377.out) | refine below_set ?_ GE373.out) | exact HB.out)); rintro e w27 ⟨rfl, hi, hb, hk⟩; refine ⟨_, rfl, ?_⟩; have n0_ := am (KeepBut.blk hk (g' := gb373) (o := .cells #[.int .i64 0, .int .i64 0, .bool false, .bool false, .bool false] 37 (0, 0)) (rk BK373) NB373_377.out (by simp)); have n1_ := am (Kd.R_mono (Kd.R_keep (IsS87.apart (show IsS87 w _ g377 t374 t384 t385 from by repeat (first | (with_reducible first | exact HI377.out | apply IsS87.alloc | apply IsS87.drewN | apply IsS87.drew | apply IsS87.set_1 | apply IsS87.set_2 | refine IsS87.far ?_ NB377_373.out _) | exact HI377.out)) (rr HO380) (by decide)) hk (fun _ h => h.2)) (fun _ h => h.1)); have n2_ := am (hb); have n3_ := am (hi); clear BK373; clear HO380; clear HB; clear HI377; have BK373 := n0_; have HO380 := n1_; have HB := n2_; have HI377 := n3_; clear n0_ n1_ n2_ n3_; (try clear hb); (try clear hb2); (try clear hk); (try clear hi); obtain ⟨Ao28, co28, eo28⟩ := Kd.R_slice HO380.out; subst eo28) | ((with_reducible refine gate_callee (f := 38) rfl ?_); refine gl_ (some 18) Tryd.func38 #[.pointer (some ⟨g377, 0, none⟩)] ?_; (with_reducible refine (spec_l1DrawRune.calls g377 t374 t387 t388 t389 t390 t391 w _ ?side1 ?side2 A7.out).mono ?_); (case side1 => repeat (first | (with_reducible first | exact HI377.out | apply IsS87.alloc | apply IsS87.drewN | apply IsS87.drew | apply IsS87.set_1 | apply IsS87.set_2 | refine IsS87.far ?_ NB377_373.out _) | exact HI377.out)); (case side2 => repeat (first | (with_reducible first | exact HB.out | apply b1 | apply b2 | apply b3 | refine below_set ?_ (IsS87.ge HI377.out) | refine below_set ?_ GE373.out) | exact HB.out)); rintro e w15 ⟨rfl, hi, hb, hk⟩; refine ⟨_, rfl, ?_⟩; have n0_ := am (KeepBut.blk hk (g' := gb373) (o := .cells #[.int .i64 0, .int .i64 0, .bool false, .bool false, .bool false] 37 (0, 0)) (rk BK373) NB373_377.out (by simp)); have n1_ := am (Kd.R_mono (Kd.R_keep (IsS87.apart (show IsS87 w _ g377 t374 t387 t388 from by repeat (first | (with_reducible first | exact HI377.out | apply IsS87.alloc | apply IsS87.drewN | apply IsS87.drew | apply IsS87.set_1 | apply IsS87.set_2 | refine IsS87.far ?_ NB377_373.out _) | exact HI377.out)) (rr HO380) (by decide)) hk (fun _ h => h.2)) (fun _ h => h.1)); have n2_ := am (hb); have n3_ := am (hi); clear BK373; clear HO380; clear HB; clear HI377; have BK373 := n0_; have HO380 := n1_; have HB := n2_; have HI377 := n3_; clear n0_ n1_ n2_ n3_; (try clear hb); (try clear hb2); (try clear hk); (try clear hi); obtain ⟨Ao16, co16, eo16⟩ := Kd.R_slice HO380.out; subst eo16) | ((with_reducible refine gate_callee (f := 39) rfl ?_); refine gl_ (some 23) Tryd.func39 #[.pointer (some ⟨g377, 0, none⟩), .int .i64 (t378.length : Int)] ?_; (with_reducible refine (spec_l4DrawAt.calls g377 t374 t387 t388 (t378.length : Int) t402 t393 t394 w _ ?side1 ?side2 A21.out).mono ?_); (case side1 => repeat (first | (with_reducible first | exact HI377.out | apply IsS87.alloc | apply IsS87.drewN | apply IsS87.drew | apply IsS87.set_1 | apply IsS87.set_2 | refine IsS87.far ?_ NB377_373.out _) | exact HI377.out)); (case side2 => repeat (first | (with_reducible first | exact HB.out | apply b1 | apply b2 | apply b3 | refine below_set ?_ (IsS87.ge HI377.out) | refine below_set ?_ GE373.out) | exact HB.out)); rintro e w29 ⟨rfl, hi, hb, hk⟩; refine ⟨_, rfl, ?_⟩; have n0_ := am (KeepBut.blk hk (g' := gb373) (o := .cells #[.int .i64 0, .int .i64 0, .bool false, .bool false, .bool false] 37 (0, 0)) (rk BK373) NB373_377.out (by simp)); have n1_ := am (Kd.R_mono (Kd.R_keep (IsS87.apart (show IsS87 w _ g377 t374 t387 t388 from by repeat (first | (with_reducible first | exact HI377.out | apply IsS87.alloc | apply IsS87.drewN | apply IsS87.drew | apply IsS87.set_1 | apply IsS87.set_2 | refine IsS87.far ?_ NB377_373.out _) | exact HI377.out)) (rr HO380) (by decide)) hk (fun _ h => h.2)) (fun _ h => h.1)); have n2_ := am (hb); have n3_ := am (hi); clear BK373; clear HO380; clear HB; clear HI377; have BK373 := n0_; have HO380 := n1_; have HB := n2_; have HI377 := n3_; clear n0_ n1_ n2_ n3_; (try clear hb); (try clear hb2); (try clear hk); (try clear hi)) | ((with_reducible refine gate_callee (f := 39) rfl ?_); refine gl_ (some 23) Tryd.func39 #[.pointer (some ⟨g377, 0, none⟩), .int .i64 (t378.length : Int)] ?_; (with_reducible refine (spec_l4DrawAt.calls g377 t374 t390 t391 (t378.length : Int) t392 t393 t394 w _ ?side1 ?side2 A8.out).mono ?_); (case side1 => repeat (first | (with_reducible first | exact HI377.out | apply IsS87.alloc | apply IsS87.drewN | apply IsS87.drew | apply IsS87.set_1 | apply IsS87.set_2 | refine IsS87.far ?_ NB377_373.out _) | exact HI377.out)); (case side2 => repeat (first | (with_reducible first | exact HB.out | apply b1 | apply b2 | apply b3 | refine below_set ?_ (IsS87.ge HI377.out) | refine below_set ?_ GE373.out) | exact HB.out)); rintro e w17 ⟨rfl, hi, hb, hk⟩; refine ⟨_, rfl, ?_⟩; have n0_ := am (KeepBut.blk hk (g' := gb373) (o := .cells #[.int .i64 0, .int .i64 0, .bool false, .bool false, .bool false] 37 (0, 0)) (rk BK373) NB373_377.out (by simp)); have n1_ := am (Kd.R_mono (Kd.R_keep (IsS87.apart (show IsS87 w _ g377 t374 t390 t391 from by repeat (first | (with_reducible first | exact HI377.out | apply IsS87.alloc | apply IsS87.drewN | apply IsS87.drew | apply IsS87.set_1 | apply IsS87.set_2 | refine IsS87.far ?_ NB377_373.out _) | exact HI377.out)) (rr HO380) (by decide)) hk (fun _ h => h.2)) (fun _ h => h.1)); have n2_ := am (hb); have n3_ := am (hi); clear BK373; clear HO380; clear HB; clear HI377; have BK373 := n0_; have HO380 := n1_; have HB := n2_; have HI377 := n3_; clear n0_ n1_ n2_ n3_; (try clear hb); (try clear hb2); (try clear hk); (try clear hi)) | ((with_reducible refine gate_callee (f := 37) rfl ?_); refine gl_ (some 16) Tryd.func37 #[.pointer (some ⟨g377, 0, none⟩), .int .i64 12] ?_; (with_reducible refine (spec_l1Once.calls g377 t374 t384 t385 12 true t387 t388 w _ ?side1 ?side2 A5.out).mono ?_); (case side1 => repeat (first | (with_reducible first | exact HI377.out | apply IsS87.alloc | apply IsS87.drewN | apply IsS87.drew | apply IsS87.set_1 | apply IsS87.set_2 | refine IsS87.far ?_ NB377_373.out _) | exact HI377.out)); (case side2 => repeat (first | (with_reducible first | exact HB.out | apply b1 | apply b2 | apply b3 | refine below_set ?_ (IsS87.ge HI377.out) | refine below_set ?_ GE373.out) | exact HB.out)); rintro e w14 ⟨rfl, hi, hb, hk⟩; refine ⟨_, rfl, ?_⟩; have n0_ := am (KeepBut.blk hk (g' := gb373) (o := .cells #[.int .i64 0, .int .i64 0, .bool false, .bool false, .bool false] 37 (0, 0)) (rk BK373) NB373_377.out (by simp)); have n1_ := am (Kd.R_mono (Kd.R_keep (IsS87.apart (show IsS87 w _ g377 t374 t384 t385 from by repeat (first | (with_reducible first | exact HI377.out | apply IsS87.alloc | apply IsS87.drewN | apply IsS87.drew | apply IsS87.set_1 | apply IsS87.set_2 | refine IsS87.far ?_ NB377_373.out _) | exact HI377.out)) (rr HO380) (by decide)) hk (fun _ h => h.2)) (fun _ h => h.1)); have n2_ := am (hb); have n3_ := am (hi); clear BK373; clear HO380; clear HB; clear HI377; have BK373 := n0_; have HO380 := n1_; have HB := n2_; have HI377 := n3_; clear n0_ n1_ n2_ n3_; (try clear hb); (try clear hb2); (try clear hk); (try clear hi)) | ((with_reducible refine gate_callee (f := 36) rfl ?_); refine gl_ (some 14) Tryd.func36 #[.pointer (some ⟨g377, 0, none⟩)] ?_; (with_reducible refine (spec_l4DrawRune.calls g377 t374 t381 t382 t383 t384 t385 w _ ?side1 ?side2 A4.out).mono ?_); (case side1 => repeat (first | (with_reducible first | exact HI377.out | apply IsS87.alloc | apply IsS87.drewN | apply IsS87.drew | apply IsS87.set_1 | apply IsS87.set_2 | refine IsS87.far ?_ NB377_373.out _) | exact HI377.out)); (case side2 => repeat (first | (with_reducible first | exact HB.out | apply b1 | apply b2 | apply b3 | refine below_set ?_ (IsS87.ge HI377.out) | refine below_set ?_ GE373.out) | exact HB.out)); rintro e w13 ⟨rfl, hi, hb, hk⟩; refine ⟨_, rfl, ?_⟩; have n0_ := am (KeepBut.blk hk (g' := gb373) (o := .cells #[.int .i64 0, .int .i64 0, .bool false, .bool false, .bool false] 37 (0, 0)) (rk BK373) NB373_377.out (by simp)); have n1_ := am (Kd.R_mono (Kd.R_keep (IsS87.apart (show IsS87 w _ g377 t374 t381 t382 from by repeat (first | (with_reducible first | exact HI377.out | apply IsS87.alloc | apply IsS87.drewN | apply IsS87.drew | apply IsS87.set_1 | apply IsS87.set_2 | refine IsS87.far ?_ NB377_373.out _) | exact HI377.out)) (rr HO380) (by decide)) hk (fun _ h => h.2)) (fun _ h => h.1)); have n2_ := am (hb); have n3_ := am (hi); clear BK373; clear HO380; clear HB; clear HI377; have BK373 := n0_; have HO380 := n1_; have HB := n2_; have HI377 := n3_; clear n0_ n1_ n2_ n3_; (try clear hb); (try clear hb2); (try clear hk); (try clear hi)) | ((with_reducible refine gate_callee (f := 35) rfl ?_); refine gl_ (some 12) Tryd.func35 #[.pointer (some ⟨g377, 0, none⟩)] ?_; (with_reducible refine (spec_l4DrawAny.calls k g377 t374 t375 t376 t378 t381 t382 w _ ?side1 ?side2 A3.out).mono ?_); (case side1 => repeat (first | (with_reducible first | exact HI377.out | apply IsS87.alloc | apply IsS87.drewN | apply IsS87.drew | apply IsS87.set_1 | apply IsS87.set_2 | refine IsS87.far ?_ NB377_373.out _) | exact HI377.out)); (case side2 => repeat (first | (with_reducible first | exact HB.out | apply b1 | apply b2 | apply b3 | refine below_set ?_ (IsS87.ge HI377.out) | refine below_set ?_ GE373.out) | exact HB.out)); rintro e w12 ⟨v379, rfl, ho0, hi, hb, hk⟩; refine ⟨_, rfl, ?_⟩; have n0_ := am (KeepBut.blk hk (g' := gb373) (o := .cells #[.int .i64 0, .int .i64 0, .bool false, .bool false, .bool false] 37 (0, 0)) (rk BK373) NB373_377.out (by simp)); have n1_ := am (Kd.R_lower ho0 (below_size (by repeat (first | (with_reducible first | exact HB.out | apply b1 | apply b2 | apply b3 | refine below_set ?_ (IsS87.ge HI377.out) | refine below_set ?_ GE373.out) | exact HB.out)))); have n2_ := am (hb); have n3_ := am (hi); clear BK373; clear HB; clear HI377; have BK373 := n0_; have HO380 := n1_; have HB := n2_; have HI377 := n3_; clear n0_ n1_ n2_ n3_; (try clear hb); (try clear hb2); (try clear hk); (try clear hi); (try clear ho0)) | ((with_reducible refine gate_callee (f := 34) rfl ?_); refine gl_ (some 10) Tryd.func34 #[.slice A0 l0.length c0] ?_; (with_reducible refine (spec_l1New.calls k _ _ l0 t374 t375 t376 w _ ?side1 ?side2 ?side3 A2.out).mono ?_); (case side1 => repeat (first | (with_reducible first | exact HB.out | apply b1 | apply b2 | apply b3 | refine below_set ?_ GE373.out) | exact HB.out)); (case side2 => exact HR0.out); (case side3 => exact HC0.out); rintro e w11 ⟨g377, rfl, hi, hb, hb2⟩; refine ⟨_, rfl, ?_⟩; have n0_ := am (blk_below (g := gb373) (o := .cells #[.int .i64 0, .int .i64 0, .bool false, .bool false, .bool false] 37 (0, 0)) (rk BK373) hb2); have n1_ := am (hb); have n2_ := am (hi); have n3_ := am (IsS87.ne_blk hi (blk_below (g := gb373) (o := .cells #[.int .i64 0, .int .i64 0, .bool false, .bool false, .bool false] 37 (0, 0)) (rk BK373) hb2) (by decide)); have n4_ := am (Ne.symm (IsS87.ne_blk hi (blk_below (g := gb373) (o := .cells #[.int .i64 0, .int .i64 0, .bool false, .bool false, .bool false] 37 (0, 0)) (rk BK373) hb2) (by decide))); clear BK373; clear HB; have BK373 := n0_; have HB := n1_; have HI377 := n2_; have NB377_373 := n3_; have NB373_377 := n4_; clear n0_ n1_ n2_ n3_ n4_; (try clear hb); (try clear hb2); (try clear hk); (try clear hi)) | ((with_reducible refine gate_dst (N := 5) rfl ?_); refine box_event ?hg (N := 5) ?hd (cs := #[.int .i64 0, .int .i64 0, .bool false, .bool false, .bool false]) (t := 37) ?hr ?_; (case hd => rfl); (case hg => rfl); (case hr => first | (go_simp; done) | (go_simp; rfl)); intro gb373 hg w10 hbox hb; have n0_ := am (below_step (rb HB) hb); have n1_ := am (hbox); have n2_ := am ((by rw [hg]; exact (below_size (rb HB)) : w.heap.size ≤ gb373)); have n3_ := am ((by rw [hg]; exact (below_size (rb HB)) : w.heap.size ≤ gb373)); clear HB; have HB := n0_; have BK373 := n1_; have GW373 := n2_; have GE373 := n3_; clear n0_ n1_ n2_ n3_; clear hb hbox hg))
  refine bodyPost_ret (results_list (rs := [.tmp 2, .tmp 3, .tmp 4, .cell 5 37]) rfl (by simp) (.tmp (.tmp (.tmp (.cell gb373 37 #[.int .i64 t395, .int .i64 t396, .bool t397, .bool t398, .bool t399] (0, 0) _ rfl (by (with_reducible repeat (first | apply k1 | apply k2 | apply k3)); refine blk_put (cs := #[.int .i64 t395, .int .i64 t396, .bool t397, .bool t398, .bool false]) ?_ 4 _ rfl; (with_reducible repeat (first | apply k1 | apply k2 | apply k3)); refine blk_put (cs := #[.int .i64 t395, .int .i64 t396, .bool t397, .bool false, .bool false]) ?_ 3 _ rfl; (with_reducible repeat (first | apply k1 | apply k2 | apply k3)); refine blk_put (cs := #[.int .i64 t395, .int .i64 t396, .bool false, .bool false, .bool false]) ?_ 2 _ rfl; (with_reducible repeat (first | apply k1 | apply k2 | apply k3)); refine blk_put (cs := #[.int .i64 t395, .int .i64 0, .bool false, .bool false, .bool false]) ?_ 1 _ rfl; (with_reducible repeat (first | apply k1 | apply k2 | apply k3)); refine blk_put (cs := #[.int .i64 0, .int .i64 0, .bool false, .bool false, .bool false]) ?_ 0 _ rfl; (with_reducible repeat (first | apply k1 | apply k2 | apply k3)); exact BK373.out) Tryd.underlying37 rfl (by kernel_rfl) .nil))))) rfl ?_
  exact ⟨_, by first | rfl | (simp [errW_none, errW_some] <;> rfl) | (simp [*, errW_none, errW_some] <;> rfl), by (with_reducible repeat (first | apply r1 | apply r2 | apply r3)); exact Kd.R_mono (Kd.R_far (p := ⟨gb373, 4, none⟩) (Kd.R_far (p := ⟨gb373, 3, none⟩) (Kd.R_far (p := ⟨gb373, 2, none⟩) (Kd.R_far (p := ⟨gb373, 1, none⟩) (Kd.R_far (p := ⟨gb373, 0, none⟩) (Kd.R_types HO380.out BK373.out (by decide)) (fun _ hk => hk.2) (.int .i64 t395)) (fun _ hk => hk.2) (.int .i64 t396)) (fun _ hk => hk.2) (.bool t397)) (fun _ hk => hk.2) (.bool t398)) (fun _ hk => hk.2) (.bool t399)) (fun _ hk => trivial), by repeat (first | (with_reducible first | exact HB.out | apply b1 | apply b2 | apply b3 | refine below_set ?_ (IsS87.ge HI377.out) | refine below_set ?_ GE373.out) | exact HB.out)⟩

end Go.Proofs.YtepeanpoicefdaaDoor.PB
