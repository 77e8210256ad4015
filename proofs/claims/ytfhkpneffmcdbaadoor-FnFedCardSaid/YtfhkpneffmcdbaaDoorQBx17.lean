/- Contracts of Go functions that laws of this seat reach: each Lean function answers as its Go function does. No condition. Written by wip/tools/inj.py, over the kit's print. -/
import Derived.Test.YtfhkpneffmcdbaaDoorQBx0
import Derived.Test.YtfhkpneffmcdbaaDoorQBx8
namespace Go.Proofs.YtfhkpneffmcdbaaDoor.QB
open Go.RowKit Go.Proofs.YtfhkpneffmcdbaaDoorW.PrintWords Go.Proofs.YtfhkpneffmcdbaaDoorW.PrintLast Go.Proofs.YtfhkpneffmcdbaaDoorW.PrintMore
attribute [local go_sem] max2_int min2_int max_two min_two max_three min_three max_four min_four   -- for this text's walks alone
set_option linter.unusedVariables false
set_option linter.unusedSimpArgs false

/-! ### utf8_FullRuneInString: function 76 -/
def utf8_FullRuneInString.f (a0 : ByteArray) : Option Bool :=
 some (if a0.size = 0 then false else if Lib.firstT (a0.get! 0).toNat % 8 ≤ a0.size then true
  else if 1 < a0.size ∧ ((a0.get! 1).toNat < Lib.accLo (Lib.firstT (a0.get! 0).toNat / 16) ∨ Lib.accHi (Lib.firstT (a0.get! 0).toNat / 16) < (a0.get! 1).toNat) then true
  else if 2 < a0.size ∧ ((a0.get! 2).toNat < 128 ∨ 191 < (a0.get! 2).toNat) then true else false)
set_option maxHeartbeats 4000000 in
set_option maxRecDepth 1000000 in
theorem utf8_FullRuneInString.calls (s : ByteArray) (r : Bool) (w : World) (h : utf8_FullRuneInString.f s = some r) (hT : TB w) :
  Calls Tryd.prog 76 #[.string s] w fun e w' => e = .returned (.bool r) ∧ Below w.heap.size w w' := by
 have hr := Option.some.inj h
 clear h
 have t0 := Tryd.underlying0; have a0 := Tryd.isAgg0; have z0 := Tryd.sizeOf0; have v0 := Tryd.zeroValue0; have t3 := Tryd.underlying3; have a3 := Tryd.isAgg3; have z3 := Tryd.sizeOf3; have v3 := Tryd.zeroValue3; have t4 := Tryd.underlying4; have a4 := Tryd.isAgg4; have z4 := Tryd.sizeOf4; have v4 := Tryd.zeroValue4; have t5 := Tryd.underlying5; have a5 := Tryd.isAgg5; have z5 := Tryd.sizeOf5; have v5 := Tryd.zeroValue5; have t9 := Tryd.underlying9; have a9 := Tryd.isAgg9; have z9 := Tryd.sizeOf9; have v9 := Tryd.zeroValue9; have t67 := Tryd.underlying67; have a67 := Tryd.isAgg67; have z67 := Tryd.sizeOf67; have v67 := Tryd.zeroValue67; have t91 := Tryd.underlying91; have a91 := Tryd.isAgg91; have z91 := Tryd.sizeOf91; have v91 := Tryd.zeroValue91; have t92 := Tryd.underlying92; have a92 := Tryd.isAgg92; have z92 := Tryd.sizeOf92; have v92 := Tryd.zeroValue92; have t93 := Tryd.underlying93; have a93 := Tryd.isAgg93; have z93 := Tryd.sizeOf93; have v93 := Tryd.zeroValue93; have t94 := Tryd.underlying94; have a94 := Tryd.isAgg94; have z94 := Tryd.sizeOf94; have v94 := Tryd.zeroValue94; have u93 := run_underlying Tryd.underlying93
 refine em_ (p := s.size = 0) (fun h0 => ?g0p) (fun h0 => ?g0n)
 case' g0p =>
  have hz : (s.size : Int) = 0 := by omega
  rw [if_pos h0] at hr
  subst hr
  have lf1_ := trivial
 case g0n =>
  rw [if_neg h0] at hr
  have hz0 : (0 : Int) < (s.size : Int) := by omega
  have hz1 : ¬ ((s.size : Int) = 0) := by omega
  obtain ⟨x0, hx0⟩ : ∃ x0, s.get! 0 = x0 := ⟨_, rfl⟩
  obtain ⟨x1, hx1⟩ : ∃ x1, s.get! 1 = x1 := ⟨_, rfl⟩
  obtain ⟨x2, hx2⟩ : ∃ x2, s.get! 2 = x2 := ⟨_, rfl⟩
  rw [hx0, hx1, hx2] at hr
  have hs0 : s[0]'(by omega) = x0 := by rw [← hx0]; exact (Utf8W.get!_of_lt s 0 (by omega)).symm
  have l0 := x0.toNat_lt; have l1 := x1.toNat_lt; have l2 := x2.toNat_lt
  have hc0 := hT.1 x0.toNat (by omega)
  rcases Lib.firstT_cases x0.toNat with hX | hX | hX | hX | hX | hX | hX | hX | hX
  ·rw [hX] at hc0 hr
   rw [if_pos (by omega)] at hr
   clear hT hX
   subst hr
   go_enter Tryd.func76, Tryd.ntmps76
   go_wp2
   all_goals first | (go_ret; exact ⟨rfl, Below.refl _ _⟩) | (exfalso; omega)
  ·rw [hX] at hc0 hr
   rw [if_pos (by omega)] at hr
   clear hT hX
   subst hr
   go_enter Tryd.func76, Tryd.ntmps76
   go_wp2
   all_goals first | (go_ret; exact ⟨rfl, Below.refl _ _⟩) | (exfalso; omega)
  ·rw [hX] at hc0 hr
   have ha0 := (hT.2 0 (by omega)).1
   have ha1 := (hT.2 0 (by omega)).2
   simp only [Lib.accLo, Lib.accHi, Nat.reduceMul, Nat.reduceAdd, Nat.reduceEqDiff, if_true, if_false, Nat.reduceMod, Nat.reduceDiv] at ha0 ha1 hr
   clear hT hX
   by_cases hn : 2 ≤ s.size
   ·have hnz : (2 : Int) ≤ (s.size : Int) := by omega
    rw [if_pos hn] at hr
    subst hr
    go_enter Tryd.func76, Tryd.ntmps76
    go_wp2
    all_goals first | (go_ret; exact ⟨rfl, Below.refl _ _⟩) | (exfalso; omega)
   ·have hnz : ¬ ((2 : Int) ≤ (s.size : Int)) := by omega
    rw [if_neg hn] at hr
    have hm : s.size = 1 := by omega
    have hmz : (s.size : Int) = 1 := by omega
    go_enter Tryd.func76, Tryd.ntmps76
    go_wp2
    go_quiet (fail)
    go_wp2
    go_ret
    refine ⟨?_, by repeat (first | exact Below.refl _ _ | apply b1 | apply b2 | apply b3)⟩
    rw [← hr]
    repeat' split
    all_goals first | rfl | (exfalso; omega)
  ·rw [hX] at hc0 hr
   have ha0 := (hT.2 1 (by omega)).1
   have ha1 := (hT.2 1 (by omega)).2
   simp only [Lib.accLo, Lib.accHi, Nat.reduceMul, Nat.reduceAdd, Nat.reduceEqDiff, if_true, if_false, Nat.reduceMod, Nat.reduceDiv] at ha0 ha1 hr
   clear hT hX
   refine em_ (p := 3 ≤ s.size) (fun hn => ?g1p) (fun hn => ?g1n)
   case' g1p =>
    have hnz : (3 : Int) ≤ (s.size : Int) := by omega
    rw [if_pos hn] at hr
    subst hr
    have lf4_ := trivial
   case g1n =>
    have hnz : ¬ ((3 : Int) ≤ (s.size : Int)) := by omega
    rw [if_neg hn] at hr
    by_cases hm1 : s.size = 1
    ·have hm : s.size = 1 := by omega
     have hmz : (s.size : Int) = 1 := by omega
     go_enter Tryd.func76, Tryd.ntmps76
     go_wp2
     go_quiet (fail)
     go_wp2
     go_ret
     refine ⟨?_, by repeat (first | exact Below.refl _ _ | apply b1 | apply b2 | apply b3)⟩
     rw [← hr]
     repeat' split
     all_goals first | rfl | (exfalso; omega)
    have hm : s.size = 2 := by omega
    have hmz : (s.size : Int) = 2 := by omega
    have hs1 : s[1]'(by omega) = x1 := by rw [← hx1]; exact (Utf8W.get!_of_lt s 1 (by omega)).symm
    have hz2 : (1 : Int) < (s.size : Int) := by omega
    refine em_ (p := x1.toNat < 160) (fun q => ?g2p) (fun q => ?g2n)
    case' g2p =>
     have qz : (x1.toNat : Int) < 160 := by omega
     have lf5_ := trivial
    case g2n =>
     have qz : ¬ ((x1.toNat : Int) < 160) := by omega
     by_cases p2 : 191 < x1.toNat
     ·have p2z : (191 : Int) < (x1.toNat : Int) := by omega
      go_enter Tryd.func76, Tryd.ntmps76
      go_wp2
      go_quiet (fail)
      go_wp2
      go_ret
      refine ⟨?_, by repeat (first | exact Below.refl _ _ | apply b1 | apply b2 | apply b3)⟩
      rw [← hr]
      repeat' split
      all_goals first | rfl | (exfalso; omega)
     ·have p2z : ¬ ((191 : Int) < (x1.toNat : Int)) := by omega
      go_enter Tryd.func76, Tryd.ntmps76
      go_wp2
      go_quiet (fail)
      go_wp2
      go_ret
      refine ⟨?_, by repeat (first | exact Below.refl _ _ | apply b1 | apply b2 | apply b3)⟩
      rw [← hr]
      repeat' split
      all_goals first | rfl | (exfalso; omega)
    all_goals
     go_enter Tryd.func76, Tryd.ntmps76
     go_wp2
     go_quiet (fail)
     go_wp2
     go_ret
     refine ⟨?_, by repeat (first | exact Below.refl _ _ | apply b1 | apply b2 | apply b3)⟩
     rw [← hr]
     repeat' split
     all_goals first | rfl | (exfalso; omega)
   all_goals
    go_enter Tryd.func76, Tryd.ntmps76
    go_wp2
    all_goals first | (go_ret; exact ⟨rfl, Below.refl _ _⟩) | (exfalso; omega)
  ·rw [hX] at hc0 hr
   have ha0 := (hT.2 0 (by omega)).1
   have ha1 := (hT.2 0 (by omega)).2
   simp only [Lib.accLo, Lib.accHi, Nat.reduceMul, Nat.reduceAdd, Nat.reduceEqDiff, if_true, if_false, Nat.reduceMod, Nat.reduceDiv] at ha0 ha1 hr
   clear hT hX
   refine em_ (p := 3 ≤ s.size) (fun hn => ?g3p) (fun hn => ?g3n)
   case' g3p =>
    have hnz : (3 : Int) ≤ (s.size : Int) := by omega
    rw [if_pos hn] at hr
    subst hr
    have lf10_ := trivial
   case g3n =>
    have hnz : ¬ ((3 : Int) ≤ (s.size : Int)) := by omega
    rw [if_neg hn] at hr
    by_cases hm1 : s.size = 1
    ·have hm : s.size = 1 := by omega
     have hmz : (s.size : Int) = 1 := by omega
     go_enter Tryd.func76, Tryd.ntmps76
     go_wp2
     go_quiet (fail)
     go_wp2
     go_ret
     refine ⟨?_, by repeat (first | exact Below.refl _ _ | apply b1 | apply b2 | apply b3)⟩
     rw [← hr]
     repeat' split
     all_goals first | rfl | (exfalso; omega)
    have hm : s.size = 2 := by omega
    have hmz : (s.size : Int) = 2 := by omega
    have hs1 : s[1]'(by omega) = x1 := by rw [← hx1]; exact (Utf8W.get!_of_lt s 1 (by omega)).symm
    have hz2 : (1 : Int) < (s.size : Int) := by omega
    refine em_ (p := x1.toNat < 128) (fun q => ?g4p) (fun q => ?g4n)
    case' g4p =>
     have qz : (x1.toNat : Int) < 128 := by omega
     have lf11_ := trivial
    case g4n =>
     have qz : ¬ ((x1.toNat : Int) < 128) := by omega
     by_cases p2 : 191 < x1.toNat
     ·have p2z : (191 : Int) < (x1.toNat : Int) := by omega
      go_enter Tryd.func76, Tryd.ntmps76
      go_wp2
      go_quiet (fail)
      go_wp2
      go_ret
      refine ⟨?_, by repeat (first | exact Below.refl _ _ | apply b1 | apply b2 | apply b3)⟩
      rw [← hr]
      repeat' split
      all_goals first | rfl | (exfalso; omega)
     ·have p2z : ¬ ((191 : Int) < (x1.toNat : Int)) := by omega
      go_enter Tryd.func76, Tryd.ntmps76
      go_wp2
      go_quiet (fail)
      go_wp2
      go_ret
      refine ⟨?_, by repeat (first | exact Below.refl _ _ | apply b1 | apply b2 | apply b3)⟩
      rw [← hr]
      repeat' split
      all_goals first | rfl | (exfalso; omega)
    all_goals
     go_enter Tryd.func76, Tryd.ntmps76
     go_wp2
     go_quiet (fail)
     go_wp2
     go_ret
     refine ⟨?_, by repeat (first | exact Below.refl _ _ | apply b1 | apply b2 | apply b3)⟩
     rw [← hr]
     repeat' split
     all_goals first | rfl | (exfalso; omega)
   all_goals
    go_enter Tryd.func76, Tryd.ntmps76
    go_wp2
    all_goals first | (go_ret; exact ⟨rfl, Below.refl _ _⟩) | (exfalso; omega)
  ·rw [hX] at hc0 hr
   have ha0 := (hT.2 2 (by omega)).1
   have ha1 := (hT.2 2 (by omega)).2
   simp only [Lib.accLo, Lib.accHi, Nat.reduceMul, Nat.reduceAdd, Nat.reduceEqDiff, if_true, if_false, Nat.reduceMod, Nat.reduceDiv] at ha0 ha1 hr
   clear hT hX
   refine em_ (p := 3 ≤ s.size) (fun hn => ?g5p) (fun hn => ?g5n)
   case' g5p =>
    have hnz : (3 : Int) ≤ (s.size : Int) := by omega
    rw [if_pos hn] at hr
    subst hr
    have lf16_ := trivial
   case g5n =>
    have hnz : ¬ ((3 : Int) ≤ (s.size : Int)) := by omega
    rw [if_neg hn] at hr
    by_cases hm1 : s.size = 1
    ·have hm : s.size = 1 := by omega
     have hmz : (s.size : Int) = 1 := by omega
     go_enter Tryd.func76, Tryd.ntmps76
     go_wp2
     go_quiet (fail)
     go_wp2
     go_ret
     refine ⟨?_, by repeat (first | exact Below.refl _ _ | apply b1 | apply b2 | apply b3)⟩
     rw [← hr]
     repeat' split
     all_goals first | rfl | (exfalso; omega)
    have hm : s.size = 2 := by omega
    have hmz : (s.size : Int) = 2 := by omega
    have hs1 : s[1]'(by omega) = x1 := by rw [← hx1]; exact (Utf8W.get!_of_lt s 1 (by omega)).symm
    have hz2 : (1 : Int) < (s.size : Int) := by omega
    refine em_ (p := x1.toNat < 128) (fun q => ?g6p) (fun q => ?g6n)
    case' g6p =>
     have qz : (x1.toNat : Int) < 128 := by omega
     have lf17_ := trivial
    case g6n =>
     have qz : ¬ ((x1.toNat : Int) < 128) := by omega
     by_cases p2 : 159 < x1.toNat
     ·have p2z : (159 : Int) < (x1.toNat : Int) := by omega
      go_enter Tryd.func76, Tryd.ntmps76
      go_wp2
      go_quiet (fail)
      go_wp2
      go_ret
      refine ⟨?_, by repeat (first | exact Below.refl _ _ | apply b1 | apply b2 | apply b3)⟩
      rw [← hr]
      repeat' split
      all_goals first | rfl | (exfalso; omega)
     ·have p2z : ¬ ((159 : Int) < (x1.toNat : Int)) := by omega
      go_enter Tryd.func76, Tryd.ntmps76
      go_wp2
      go_quiet (fail)
      go_wp2
      go_ret
      refine ⟨?_, by repeat (first | exact Below.refl _ _ | apply b1 | apply b2 | apply b3)⟩
      rw [← hr]
      repeat' split
      all_goals first | rfl | (exfalso; omega)
    all_goals
     go_enter Tryd.func76, Tryd.ntmps76
     go_wp2
     go_quiet (fail)
     go_wp2
     go_ret
     refine ⟨?_, by repeat (first | exact Below.refl _ _ | apply b1 | apply b2 | apply b3)⟩
     rw [← hr]
     repeat' split
     all_goals first | rfl | (exfalso; omega)
   all_goals
    go_enter Tryd.func76, Tryd.ntmps76
    go_wp2
    all_goals first | (go_ret; exact ⟨rfl, Below.refl _ _⟩) | (exfalso; omega)
  ·rw [hX] at hc0 hr
   have ha0 := (hT.2 3 (by omega)).1
   have ha1 := (hT.2 3 (by omega)).2
   simp only [Lib.accLo, Lib.accHi, Nat.reduceMul, Nat.reduceAdd, Nat.reduceEqDiff, if_true, if_false, Nat.reduceMod, Nat.reduceDiv] at ha0 ha1 hr
   clear hT hX
   refine em_ (p := 4 ≤ s.size) (fun hn => ?g7p) (fun hn => ?g7n)
   case' g7p =>
    have hnz : (4 : Int) ≤ (s.size : Int) := by omega
    rw [if_pos hn] at hr
    subst hr
    have lf22_ := trivial
   case g7n =>
    have hnz : ¬ ((4 : Int) ≤ (s.size : Int)) := by omega
    rw [if_neg hn] at hr
    by_cases hm1 : s.size = 1
    ·have hm : s.size = 1 := by omega
     have hmz : (s.size : Int) = 1 := by omega
     go_enter Tryd.func76, Tryd.ntmps76
     go_wp2
     go_quiet (fail)
     go_wp2
     go_ret
     refine ⟨?_, by repeat (first | exact Below.refl _ _ | apply b1 | apply b2 | apply b3)⟩
     rw [← hr]
     repeat' split
     all_goals first | rfl | (exfalso; omega)
    by_cases hm2 : s.size = 2
    ·have hm : s.size = 2 := by omega
     have hmz : (s.size : Int) = 2 := by omega
     have hs1 : s[1]'(by omega) = x1 := by rw [← hx1]; exact (Utf8W.get!_of_lt s 1 (by omega)).symm
     have hz2 : (1 : Int) < (s.size : Int) := by omega
     refine em_ (p := x1.toNat < 144) (fun q => ?g8p) (fun q => ?g8n)
     case' g8p =>
      have qz : (x1.toNat : Int) < 144 := by omega
      have lf23_ := trivial
     case g8n =>
      have qz : ¬ ((x1.toNat : Int) < 144) := by omega
      by_cases p2 : 191 < x1.toNat
      ·have p2z : (191 : Int) < (x1.toNat : Int) := by omega
       go_enter Tryd.func76, Tryd.ntmps76
       go_wp2
       go_quiet (fail)
       go_wp2
       go_ret
       refine ⟨?_, by repeat (first | exact Below.refl _ _ | apply b1 | apply b2 | apply b3)⟩
       rw [← hr]
       repeat' split
       all_goals first | rfl | (exfalso; omega)
      ·have p2z : ¬ ((191 : Int) < (x1.toNat : Int)) := by omega
       go_enter Tryd.func76, Tryd.ntmps76
       go_wp2
       go_quiet (fail)
       go_wp2
       go_ret
       refine ⟨?_, by repeat (first | exact Below.refl _ _ | apply b1 | apply b2 | apply b3)⟩
       rw [← hr]
       repeat' split
       all_goals first | rfl | (exfalso; omega)
     all_goals
      go_enter Tryd.func76, Tryd.ntmps76
      go_wp2
      go_quiet (fail)
      go_wp2
      go_ret
      refine ⟨?_, by repeat (first | exact Below.refl _ _ | apply b1 | apply b2 | apply b3)⟩
      rw [← hr]
      repeat' split
      all_goals first | rfl | (exfalso; omega)
    have hm : s.size = 3 := by omega
    have hmz : (s.size : Int) = 3 := by omega
    have hs1 : s[1]'(by omega) = x1 := by rw [← hx1]; exact (Utf8W.get!_of_lt s 1 (by omega)).symm
    have hz2 : (1 : Int) < (s.size : Int) := by omega
    have hs2 : s[2]'(by omega) = x2 := by rw [← hx2]; exact (Utf8W.get!_of_lt s 2 (by omega)).symm
    have hz3 : (2 : Int) < (s.size : Int) := by omega
    refine em_ (p := x1.toNat < 144) (fun q => ?g10p) (fun q => ?g10n)
    case' g10p =>
     have qz : (x1.toNat : Int) < 144 := by omega
     have lf28_ := trivial
    case g10n =>
     have qz : ¬ ((x1.toNat : Int) < 144) := by omega
     refine em_ (p := 191 < x1.toNat) (fun p2 => ?g11p) (fun p2 => ?g11n)
     case' g11p =>
      have p2z : (191 : Int) < (x1.toNat : Int) := by omega
      have lf33_ := trivial
     case g11n =>
      have p2z : ¬ ((191 : Int) < (x1.toNat : Int)) := by omega
      refine em_ (p := x2.toNat < 128) (fun q => ?g9p) (fun q => ?g9n)
      case' g9p =>
       have qz : (x2.toNat : Int) < 128 := by omega
       have lf30_ := trivial
      case g9n =>
       have qz : ¬ ((x2.toNat : Int) < 128) := by omega
       by_cases q2 : 191 < x2.toNat
       ·have q2z : (191 : Int) < (x2.toNat : Int) := by omega
        go_enter Tryd.func76, Tryd.ntmps76
        go_wp2
        go_quiet (fail)
        go_wp2
        go_ret
        refine ⟨?_, by repeat (first | exact Below.refl _ _ | apply b1 | apply b2 | apply b3)⟩
        rw [← hr]
        repeat' split
        all_goals first | rfl | (exfalso; omega)
       ·have q2z : ¬ ((191 : Int) < (x2.toNat : Int)) := by omega
        go_enter Tryd.func76, Tryd.ntmps76
        go_wp2
        go_quiet (fail)
        go_wp2
        go_ret
        refine ⟨?_, by repeat (first | exact Below.refl _ _ | apply b1 | apply b2 | apply b3)⟩
        rw [← hr]
        repeat' split
        all_goals first | rfl | (exfalso; omega)
      all_goals
       go_enter Tryd.func76, Tryd.ntmps76
       go_wp2
       go_quiet (fail)
       go_wp2
       go_ret
       refine ⟨?_, by repeat (first | exact Below.refl _ _ | apply b1 | apply b2 | apply b3)⟩
       rw [← hr]
       repeat' split
       all_goals first | rfl | (exfalso; omega)
     all_goals
      go_enter Tryd.func76, Tryd.ntmps76
      go_wp2
      go_quiet (fail)
      go_wp2
      go_ret
      refine ⟨?_, by repeat (first | exact Below.refl _ _ | apply b1 | apply b2 | apply b3)⟩
      rw [← hr]
      repeat' split
      all_goals first | rfl | (exfalso; omega)
    all_goals
     go_enter Tryd.func76, Tryd.ntmps76
     go_wp2
     go_quiet (fail)
     go_wp2
     go_ret
     refine ⟨?_, by repeat (first | exact Below.refl _ _ | apply b1 | apply b2 | apply b3)⟩
     rw [← hr]
     repeat' split
     all_goals first | rfl | (exfalso; omega)
   all_goals
    go_enter Tryd.func76, Tryd.ntmps76
    go_wp2
    all_goals first | (go_ret; exact ⟨rfl, Below.refl _ _⟩) | (exfalso; omega)
  ·rw [hX] at hc0 hr
   have ha0 := (hT.2 0 (by omega)).1
   have ha1 := (hT.2 0 (by omega)).2
   simp only [Lib.accLo, Lib.accHi, Nat.reduceMul, Nat.reduceAdd, Nat.reduceEqDiff, if_true, if_false, Nat.reduceMod, Nat.reduceDiv] at ha0 ha1 hr
   clear hT hX
   refine em_ (p := 4 ≤ s.size) (fun hn => ?g12p) (fun hn => ?g12n)
   case' g12p =>
    have hnz : (4 : Int) ≤ (s.size : Int) := by omega
    rw [if_pos hn] at hr
    subst hr
    have lf36_ := trivial
   case g12n =>
    have hnz : ¬ ((4 : Int) ≤ (s.size : Int)) := by omega
    rw [if_neg hn] at hr
    by_cases hm1 : s.size = 1
    ·have hm : s.size = 1 := by omega
     have hmz : (s.size : Int) = 1 := by omega
     go_enter Tryd.func76, Tryd.ntmps76
     go_wp2
     go_quiet (fail)
     go_wp2
     go_ret
     refine ⟨?_, by repeat (first | exact Below.refl _ _ | apply b1 | apply b2 | apply b3)⟩
     rw [← hr]
     repeat' split
     all_goals first | rfl | (exfalso; omega)
    by_cases hm2 : s.size = 2
    ·have hm : s.size = 2 := by omega
     have hmz : (s.size : Int) = 2 := by omega
     have hs1 : s[1]'(by omega) = x1 := by rw [← hx1]; exact (Utf8W.get!_of_lt s 1 (by omega)).symm
     have hz2 : (1 : Int) < (s.size : Int) := by omega
     refine em_ (p := x1.toNat < 128) (fun q => ?g13p) (fun q => ?g13n)
     case' g13p =>
      have qz : (x1.toNat : Int) < 128 := by omega
      have lf37_ := trivial
     case g13n =>
      have qz : ¬ ((x1.toNat : Int) < 128) := by omega
      by_cases p2 : 191 < x1.toNat
      ·have p2z : (191 : Int) < (x1.toNat : Int) := by omega
       go_enter Tryd.func76, Tryd.ntmps76
       go_wp2
       go_quiet (fail)
       go_wp2
       go_ret
       refine ⟨?_, by repeat (first | exact Below.refl _ _ | apply b1 | apply b2 | apply b3)⟩
       rw [← hr]
       repeat' split
       all_goals first | rfl | (exfalso; omega)
      ·have p2z : ¬ ((191 : Int) < (x1.toNat : Int)) := by omega
       go_enter Tryd.func76, Tryd.ntmps76
       go_wp2
       go_quiet (fail)
       go_wp2
       go_ret
       refine ⟨?_, by repeat (first | exact Below.refl _ _ | apply b1 | apply b2 | apply b3)⟩
       rw [← hr]
       repeat' split
       all_goals first | rfl | (exfalso; omega)
     all_goals
      go_enter Tryd.func76, Tryd.ntmps76
      go_wp2
      go_quiet (fail)
      go_wp2
      go_ret
      refine ⟨?_, by repeat (first | exact Below.refl _ _ | apply b1 | apply b2 | apply b3)⟩
      rw [← hr]
      repeat' split
      all_goals first | rfl | (exfalso; omega)
    have hm : s.size = 3 := by omega
    have hmz : (s.size : Int) = 3 := by omega
    have hs1 : s[1]'(by omega) = x1 := by rw [← hx1]; exact (Utf8W.get!_of_lt s 1 (by omega)).symm
    have hz2 : (1 : Int) < (s.size : Int) := by omega
    have hs2 : s[2]'(by omega) = x2 := by rw [← hx2]; exact (Utf8W.get!_of_lt s 2 (by omega)).symm
    have hz3 : (2 : Int) < (s.size : Int) := by omega
    refine em_ (p := x1.toNat < 128) (fun q => ?g15p) (fun q => ?g15n)
    case' g15p =>
     have qz : (x1.toNat : Int) < 128 := by omega
     have lf42_ := trivial
    case g15n =>
     have qz : ¬ ((x1.toNat : Int) < 128) := by omega
     refine em_ (p := 191 < x1.toNat) (fun p2 => ?g16p) (fun p2 => ?g16n)
     case' g16p =>
      have p2z : (191 : Int) < (x1.toNat : Int) := by omega
      have lf47_ := trivial
     case g16n =>
      have p2z : ¬ ((191 : Int) < (x1.toNat : Int)) := by omega
      refine em_ (p := x2.toNat < 128) (fun q => ?g14p) (fun q => ?g14n)
      case' g14p =>
       have qz : (x2.toNat : Int) < 128 := by omega
       have lf44_ := trivial
      case g14n =>
       have qz : ¬ ((x2.toNat : Int) < 128) := by omega
       by_cases q2 : 191 < x2.toNat
       ·have q2z : (191 : Int) < (x2.toNat : Int) := by omega
        go_enter Tryd.func76, Tryd.ntmps76
        go_wp2
        go_quiet (fail)
        go_wp2
        go_ret
        refine ⟨?_, by repeat (first | exact Below.refl _ _ | apply b1 | apply b2 | apply b3)⟩
        rw [← hr]
        repeat' split
        all_goals first | rfl | (exfalso; omega)
       ·have q2z : ¬ ((191 : Int) < (x2.toNat : Int)) := by omega
        go_enter Tryd.func76, Tryd.ntmps76
        go_wp2
        go_quiet (fail)
        go_wp2
        go_ret
        refine ⟨?_, by repeat (first | exact Below.refl _ _ | apply b1 | apply b2 | apply b3)⟩
        rw [← hr]
        repeat' split
        all_goals first | rfl | (exfalso; omega)
      all_goals
       go_enter Tryd.func76, Tryd.ntmps76
       go_wp2
       go_quiet (fail)
       go_wp2
       go_ret
       refine ⟨?_, by repeat (first | exact Below.refl _ _ | apply b1 | apply b2 | apply b3)⟩
       rw [← hr]
       repeat' split
       all_goals first | rfl | (exfalso; omega)
     all_goals
      go_enter Tryd.func76, Tryd.ntmps76
      go_wp2
      go_quiet (fail)
      go_wp2
      go_ret
      refine ⟨?_, by repeat (first | exact Below.refl _ _ | apply b1 | apply b2 | apply b3)⟩
      rw [← hr]
      repeat' split
      all_goals first | rfl | (exfalso; omega)
    all_goals
     go_enter Tryd.func76, Tryd.ntmps76
     go_wp2
     go_quiet (fail)
     go_wp2
     go_ret
     refine ⟨?_, by repeat (first | exact Below.refl _ _ | apply b1 | apply b2 | apply b3)⟩
     rw [← hr]
     repeat' split
     all_goals first | rfl | (exfalso; omega)
   all_goals
    go_enter Tryd.func76, Tryd.ntmps76
    go_wp2
    all_goals first | (go_ret; exact ⟨rfl, Below.refl _ _⟩) | (exfalso; omega)
  ·rw [hX] at hc0 hr
   have ha0 := (hT.2 4 (by omega)).1
   have ha1 := (hT.2 4 (by omega)).2
   simp only [Lib.accLo, Lib.accHi, Nat.reduceMul, Nat.reduceAdd, Nat.reduceEqDiff, if_true, if_false, Nat.reduceMod, Nat.reduceDiv] at ha0 ha1 hr
   clear hT hX
   refine em_ (p := 4 ≤ s.size) (fun hn => ?g17p) (fun hn => ?g17n)
   case' g17p =>
    have hnz : (4 : Int) ≤ (s.size : Int) := by omega
    rw [if_pos hn] at hr
    subst hr
    have lf50_ := trivial
   case g17n =>
    have hnz : ¬ ((4 : Int) ≤ (s.size : Int)) := by omega
    rw [if_neg hn] at hr
    by_cases hm1 : s.size = 1
    ·have hm : s.size = 1 := by omega
     have hmz : (s.size : Int) = 1 := by omega
     go_enter Tryd.func76, Tryd.ntmps76
     go_wp2
     go_quiet (fail)
     go_wp2
     go_ret
     refine ⟨?_, by repeat (first | exact Below.refl _ _ | apply b1 | apply b2 | apply b3)⟩
     rw [← hr]
     repeat' split
     all_goals first | rfl | (exfalso; omega)
    by_cases hm2 : s.size = 2
    ·have hm : s.size = 2 := by omega
     have hmz : (s.size : Int) = 2 := by omega
     have hs1 : s[1]'(by omega) = x1 := by rw [← hx1]; exact (Utf8W.get!_of_lt s 1 (by omega)).symm
     have hz2 : (1 : Int) < (s.size : Int) := by omega
     refine em_ (p := x1.toNat < 128) (fun q => ?g18p) (fun q => ?g18n)
     case' g18p =>
      have qz : (x1.toNat : Int) < 128 := by omega
      have lf51_ := trivial
     case g18n =>
      have qz : ¬ ((x1.toNat : Int) < 128) := by omega
      by_cases p2 : 143 < x1.toNat
      ·have p2z : (143 : Int) < (x1.toNat : Int) := by omega
       go_enter Tryd.func76, Tryd.ntmps76
       go_wp2
       go_quiet (fail)
       go_wp2
       go_ret
       refine ⟨?_, by repeat (first | exact Below.refl _ _ | apply b1 | apply b2 | apply b3)⟩
       rw [← hr]
       repeat' split
       all_goals first | rfl | (exfalso; omega)
      ·have p2z : ¬ ((143 : Int) < (x1.toNat : Int)) := by omega
       go_enter Tryd.func76, Tryd.ntmps76
       go_wp2
       go_quiet (fail)
       go_wp2
       go_ret
       refine ⟨?_, by repeat (first | exact Below.refl _ _ | apply b1 | apply b2 | apply b3)⟩
       rw [← hr]
       repeat' split
       all_goals first | rfl | (exfalso; omega)
     all_goals
      go_enter Tryd.func76, Tryd.ntmps76
      go_wp2
      go_quiet (fail)
      go_wp2
      go_ret
      refine ⟨?_, by repeat (first | exact Below.refl _ _ | apply b1 | apply b2 | apply b3)⟩
      rw [← hr]
      repeat' split
      all_goals first | rfl | (exfalso; omega)
    have hm : s.size = 3 := by omega
    have hmz : (s.size : Int) = 3 := by omega
    have hs1 : s[1]'(by omega) = x1 := by rw [← hx1]; exact (Utf8W.get!_of_lt s 1 (by omega)).symm
    have hz2 : (1 : Int) < (s.size : Int) := by omega
    have hs2 : s[2]'(by omega) = x2 := by rw [← hx2]; exact (Utf8W.get!_of_lt s 2 (by omega)).symm
    have hz3 : (2 : Int) < (s.size : Int) := by omega
    refine em_ (p := x1.toNat < 128) (fun q => ?g20p) (fun q => ?g20n)
    case' g20p =>
     have qz : (x1.toNat : Int) < 128 := by omega
     have lf56_ := trivial
    case g20n =>
     have qz : ¬ ((x1.toNat : Int) < 128) := by omega
     refine em_ (p := 143 < x1.toNat) (fun p2 => ?g21p) (fun p2 => ?g21n)
     case' g21p =>
      have p2z : (143 : Int) < (x1.toNat : Int) := by omega
      have lf61_ := trivial
     case g21n =>
      have p2z : ¬ ((143 : Int) < (x1.toNat : Int)) := by omega
      refine em_ (p := x2.toNat < 128) (fun q => ?g19p) (fun q => ?g19n)
      case' g19p =>
       have qz : (x2.toNat : Int) < 128 := by omega
       have lf58_ := trivial
      case g19n =>
       have qz : ¬ ((x2.toNat : Int) < 128) := by omega
       by_cases q2 : 191 < x2.toNat
       ·have q2z : (191 : Int) < (x2.toNat : Int) := by omega
        go_enter Tryd.func76, Tryd.ntmps76
        go_wp2
        go_quiet (fail)
        go_wp2
        go_ret
        refine ⟨?_, by repeat (first | exact Below.refl _ _ | apply b1 | apply b2 | apply b3)⟩
        rw [← hr]
        repeat' split
        all_goals first | rfl | (exfalso; omega)
       ·have q2z : ¬ ((191 : Int) < (x2.toNat : Int)) := by omega
        go_enter Tryd.func76, Tryd.ntmps76
        go_wp2
        go_quiet (fail)
        go_wp2
        go_ret
        refine ⟨?_, by repeat (first | exact Below.refl _ _ | apply b1 | apply b2 | apply b3)⟩
        rw [← hr]
        repeat' split
        all_goals first | rfl | (exfalso; omega)
      all_goals
       go_enter Tryd.func76, Tryd.ntmps76
       go_wp2
       go_quiet (fail)
       go_wp2
       go_ret
       refine ⟨?_, by repeat (first | exact Below.refl _ _ | apply b1 | apply b2 | apply b3)⟩
       rw [← hr]
       repeat' split
       all_goals first | rfl | (exfalso; omega)
     all_goals
      go_enter Tryd.func76, Tryd.ntmps76
      go_wp2
      go_quiet (fail)
      go_wp2
      go_ret
      refine ⟨?_, by repeat (first | exact Below.refl _ _ | apply b1 | apply b2 | apply b3)⟩
      rw [← hr]
      repeat' split
      all_goals first | rfl | (exfalso; omega)
    all_goals
     go_enter Tryd.func76, Tryd.ntmps76
     go_wp2
     go_quiet (fail)
     go_wp2
     go_ret
     refine ⟨?_, by repeat (first | exact Below.refl _ _ | apply b1 | apply b2 | apply b3)⟩
     rw [← hr]
     repeat' split
     all_goals first | rfl | (exfalso; omega)
   all_goals
    go_enter Tryd.func76, Tryd.ntmps76
    go_wp2
    all_goals first | (go_ret; exact ⟨rfl, Below.refl _ _⟩) | (exfalso; omega)
 all_goals
  go_enter Tryd.func76, Tryd.ntmps76
  go_wp2
  go_ret
  exact ⟨rfl, Below.refl _ _⟩

end Go.Proofs.YtfhkpneffmcdbaaDoor.QB
