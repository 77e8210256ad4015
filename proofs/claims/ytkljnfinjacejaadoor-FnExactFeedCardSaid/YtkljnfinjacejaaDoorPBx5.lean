/- Contracts of Go functions that laws of this seat reach: each Lean function answers as its Go function does. No condition. Written by wip/tools/inj.py, over the kit's print. -/
import Derived.Test.YtkljnfinjacejaaDoorPBx0
namespace Go.Proofs.YtkljnfinjacejaaDoor.PB
open Go.RowKit Go.Proofs.YtkljnfinjacejaaDoorW.PrintWords Go.Proofs.YtkljnfinjacejaaDoorW.PrintLast Go.Proofs.YtkljnfinjacejaaDoorW.PrintMore
attribute [local go_sem] max2_int min2_int max_two min_two max_three min_three max_four min_four   -- for this text's walks alone
set_option linter.unusedVariables false
set_option linter.unusedSimpArgs false

/-! ### utf8_FullRuneInString: function 73 -/
def TB (w : World) : Prop := Lib.Utf8Tabs 0 1 w
theorem TB.below {w w' : World} (h : TB w) (hb : Below w.heap.size w w') : TB w' := Utf8Tabs_below h hb
def utf8_FullRuneInString.f (a0 : ByteArray) : Option Bool :=
  some (if a0.size = 0 then false else if Lib.firstT (a0.get! 0).toNat % 8 ≤ a0.size then true
    else if 1 < a0.size ∧ ((a0.get! 1).toNat < Lib.accLo (Lib.firstT (a0.get! 0).toNat / 16) ∨ Lib.accHi (Lib.firstT (a0.get! 0).toNat / 16) < (a0.get! 1).toNat) then true
    else if 2 < a0.size ∧ ((a0.get! 2).toNat < 128 ∨ 191 < (a0.get! 2).toNat) then true else false)
set_option maxHeartbeats 4000000 in
set_option maxRecDepth 1000000 in
theorem utf8_FullRuneInString.calls (s : ByteArray) (r : Bool) (w : World) (h : utf8_FullRuneInString.f s = some r) (hT : TB w) :
    Calls Tryd.prog 73 #[.string s] w fun e w' => e = .returned (.bool r) ∧ Below w.heap.size w w' := by
  have hr := Option.some.inj h
  clear h
  have t0 := Tryd.underlying0; have a0 := Tryd.isAgg0; have z0 := Tryd.sizeOf0; have v0 := Tryd.zeroValue0; have t3 := Tryd.underlying3; have a3 := Tryd.isAgg3; have z3 := Tryd.sizeOf3; have v3 := Tryd.zeroValue3; have t4 := Tryd.underlying4; have a4 := Tryd.isAgg4; have z4 := Tryd.sizeOf4; have v4 := Tryd.zeroValue4; have t5 := Tryd.underlying5; have a5 := Tryd.isAgg5; have z5 := Tryd.sizeOf5; have v5 := Tryd.zeroValue5; have t9 := Tryd.underlying9; have a9 := Tryd.isAgg9; have z9 := Tryd.sizeOf9; have v9 := Tryd.zeroValue9; have t72 := Tryd.underlying72; have a72 := Tryd.isAgg72; have z72 := Tryd.sizeOf72; have v72 := Tryd.zeroValue72; have t96 := Tryd.underlying96; have a96 := Tryd.isAgg96; have z96 := Tryd.sizeOf96; have v96 := Tryd.zeroValue96; have t97 := Tryd.underlying97; have a97 := Tryd.isAgg97; have z97 := Tryd.sizeOf97; have v97 := Tryd.zeroValue97; have t98 := Tryd.underlying98; have a98 := Tryd.isAgg98; have z98 := Tryd.sizeOf98; have v98 := Tryd.zeroValue98; have t99 := Tryd.underlying99; have a99 := Tryd.isAgg99; have z99 := Tryd.sizeOf99; have v99 := Tryd.zeroValue99; have u98 := run_underlying Tryd.underlying98
  by_cases h0 : s.size = 0
  · have hz : (s.size : Int) = 0 := by omega
    rw [if_pos h0] at hr
    subst hr
    go_enter Tryd.func73, Tryd.ntmps73
    go_wp2
    go_ret
    exact ⟨rfl, Below.refl _ _⟩
  · rw [if_neg h0] at hr
    have hz0 : (0 : Int) < (s.size : Int) := by omega
    have hz1 : ¬ ((s.size : Int) = 0) := by omega
    obtain ⟨x0, hx0⟩ : ∃ x0, s.get! 0 = x0 := ⟨_, rfl⟩
    obtain ⟨x1, hx1⟩ : ∃ x1, s.get! 1 = x1 := ⟨_, rfl⟩
    obtain ⟨x2, hx2⟩ : ∃ x2, s.get! 2 = x2 := ⟨_, rfl⟩
    rw [hx0, hx1, hx2] at hr
    have hs0 : s[0]'(by omega) = x0 := by rw [← hx0]; exact (Utf8W.get!_of_lt s 0 (by omega)).symm
    have l0 := x0.toNat_lt; have l1 := x1.toNat_lt; have l2 := x2.toNat_lt
    have hc0 := hT.1 x0.toNat (by omega)
    rcases Lib.firstT_cases x0.toNat with hX | hX | hX | hX | hX | hX | hX | hX | hX
    · rw [hX] at hc0 hr
      rw [if_pos (by omega)] at hr
      clear hT hX
      subst hr
      go_enter Tryd.func73, Tryd.ntmps73
      go_wp2
      all_goals first | (go_ret; exact ⟨rfl, Below.refl _ _⟩) | (exfalso; omega)
    · rw [hX] at hc0 hr
      rw [if_pos (by omega)] at hr
      clear hT hX
      subst hr
      go_enter Tryd.func73, Tryd.ntmps73
      go_wp2
      all_goals first | (go_ret; exact ⟨rfl, Below.refl _ _⟩) | (exfalso; omega)
    · rw [hX] at hc0 hr
      have ha0 := (hT.2 0 (by omega)).1
      have ha1 := (hT.2 0 (by omega)).2
      simp only [Lib.accLo, Lib.accHi, Nat.reduceMul, Nat.reduceAdd, Nat.reduceEqDiff, if_true, if_false, Nat.reduceMod, Nat.reduceDiv] at ha0 ha1 hr
      clear hT hX
      by_cases hn : 2 ≤ s.size
      · have hnz : (2 : Int) ≤ (s.size : Int) := by omega
        rw [if_pos hn] at hr
        subst hr
        go_enter Tryd.func73, Tryd.ntmps73
        go_wp2
        all_goals first | (go_ret; exact ⟨rfl, Below.refl _ _⟩) | (exfalso; omega)
      · have hnz : ¬ ((2 : Int) ≤ (s.size : Int)) := by omega
        rw [if_neg hn] at hr
        have hm : s.size = 1 := by omega
        have hmz : (s.size : Int) = 1 := by omega
        go_enter Tryd.func73, Tryd.ntmps73
        go_wp2
        go_quiet (fail)
        go_wp2
        go_ret
        refine ⟨?_, by repeat (first | exact Below.refl _ _ | apply below_alloc | apply pw_below_drewN | apply below_drew1)⟩
        rw [← hr]
        repeat' split
        all_goals first | rfl | (exfalso; omega)
    · rw [hX] at hc0 hr
      have ha0 := (hT.2 1 (by omega)).1
      have ha1 := (hT.2 1 (by omega)).2
      simp only [Lib.accLo, Lib.accHi, Nat.reduceMul, Nat.reduceAdd, Nat.reduceEqDiff, if_true, if_false, Nat.reduceMod, Nat.reduceDiv] at ha0 ha1 hr
      clear hT hX
      by_cases hn : 3 ≤ s.size
      · have hnz : (3 : Int) ≤ (s.size : Int) := by omega
        rw [if_pos hn] at hr
        subst hr
        go_enter Tryd.func73, Tryd.ntmps73
        go_wp2
        all_goals first | (go_ret; exact ⟨rfl, Below.refl _ _⟩) | (exfalso; omega)
      · have hnz : ¬ ((3 : Int) ≤ (s.size : Int)) := by omega
        rw [if_neg hn] at hr
        by_cases hm1 : s.size = 1
        · have hm : s.size = 1 := by omega
          have hmz : (s.size : Int) = 1 := by omega
          go_enter Tryd.func73, Tryd.ntmps73
          go_wp2
          go_quiet (fail)
          go_wp2
          go_ret
          refine ⟨?_, by repeat (first | exact Below.refl _ _ | apply below_alloc | apply pw_below_drewN | apply below_drew1)⟩
          rw [← hr]
          repeat' split
          all_goals first | rfl | (exfalso; omega)
        have hm : s.size = 2 := by omega
        have hmz : (s.size : Int) = 2 := by omega
        have hs1 : s[1]'(by omega) = x1 := by rw [← hx1]; exact (Utf8W.get!_of_lt s 1 (by omega)).symm
        have hz2 : (1 : Int) < (s.size : Int) := by omega
        by_cases q : x1.toNat < 160
        · have qz : (x1.toNat : Int) < 160 := by omega
          go_enter Tryd.func73, Tryd.ntmps73
          go_wp2
          go_quiet (fail)
          go_wp2
          go_ret
          refine ⟨?_, by repeat (first | exact Below.refl _ _ | apply below_alloc | apply pw_below_drewN | apply below_drew1)⟩
          rw [← hr]
          repeat' split
          all_goals first | rfl | (exfalso; omega)
        · have qz : ¬ ((x1.toNat : Int) < 160) := by omega
          by_cases p2 : 191 < x1.toNat
          · have p2z : (191 : Int) < (x1.toNat : Int) := by omega
            go_enter Tryd.func73, Tryd.ntmps73
            go_wp2
            go_quiet (fail)
            go_wp2
            go_ret
            refine ⟨?_, by repeat (first | exact Below.refl _ _ | apply below_alloc | apply pw_below_drewN | apply below_drew1)⟩
            rw [← hr]
            repeat' split
            all_goals first | rfl | (exfalso; omega)
          · have p2z : ¬ ((191 : Int) < (x1.toNat : Int)) := by omega
            go_enter Tryd.func73, Tryd.ntmps73
            go_wp2
            go_quiet (fail)
            go_wp2
            go_ret
            refine ⟨?_, by repeat (first | exact Below.refl _ _ | apply below_alloc | apply pw_below_drewN | apply below_drew1)⟩
            rw [← hr]
            repeat' split
            all_goals first | rfl | (exfalso; omega)
    · rw [hX] at hc0 hr
      have ha0 := (hT.2 0 (by omega)).1
      have ha1 := (hT.2 0 (by omega)).2
      simp only [Lib.accLo, Lib.accHi, Nat.reduceMul, Nat.reduceAdd, Nat.reduceEqDiff, if_true, if_false, Nat.reduceMod, Nat.reduceDiv] at ha0 ha1 hr
      clear hT hX
      by_cases hn : 3 ≤ s.size
      · have hnz : (3 : Int) ≤ (s.size : Int) := by omega
        rw [if_pos hn] at hr
        subst hr
        go_enter Tryd.func73, Tryd.ntmps73
        go_wp2
        all_goals first | (go_ret; exact ⟨rfl, Below.refl _ _⟩) | (exfalso; omega)
      · have hnz : ¬ ((3 : Int) ≤ (s.size : Int)) := by omega
        rw [if_neg hn] at hr
        by_cases hm1 : s.size = 1
        · have hm : s.size = 1 := by omega
          have hmz : (s.size : Int) = 1 := by omega
          go_enter Tryd.func73, Tryd.ntmps73
          go_wp2
          go_quiet (fail)
          go_wp2
          go_ret
          refine ⟨?_, by repeat (first | exact Below.refl _ _ | apply below_alloc | apply pw_below_drewN | apply below_drew1)⟩
          rw [← hr]
          repeat' split
          all_goals first | rfl | (exfalso; omega)
        have hm : s.size = 2 := by omega
        have hmz : (s.size : Int) = 2 := by omega
        have hs1 : s[1]'(by omega) = x1 := by rw [← hx1]; exact (Utf8W.get!_of_lt s 1 (by omega)).symm
        have hz2 : (1 : Int) < (s.size : Int) := by omega
        by_cases q : x1.toNat < 128
        · have qz : (x1.toNat : Int) < 128 := by omega
          go_enter Tryd.func73, Tryd.ntmps73
          go_wp2
          go_quiet (fail)
          go_wp2
          go_ret
          refine ⟨?_, by repeat (first | exact Below.refl _ _ | apply below_alloc | apply pw_below_drewN | apply below_drew1)⟩
          rw [← hr]
          repeat' split
          all_goals first | rfl | (exfalso; omega)
        · have qz : ¬ ((x1.toNat : Int) < 128) := by omega
          by_cases p2 : 191 < x1.toNat
          · have p2z : (191 : Int) < (x1.toNat : Int) := by omega
            go_enter Tryd.func73, Tryd.ntmps73
            go_wp2
            go_quiet (fail)
            go_wp2
            go_ret
            refine ⟨?_, by repeat (first | exact Below.refl _ _ | apply below_alloc | apply pw_below_drewN | apply below_drew1)⟩
            rw [← hr]
            repeat' split
            all_goals first | rfl | (exfalso; omega)
          · have p2z : ¬ ((191 : Int) < (x1.toNat : Int)) := by omega
            go_enter Tryd.func73, Tryd.ntmps73
            go_wp2
            go_quiet (fail)
            go_wp2
            go_ret
            refine ⟨?_, by repeat (first | exact Below.refl _ _ | apply below_alloc | apply pw_below_drewN | apply below_drew1)⟩
            rw [← hr]
            repeat' split
            all_goals first | rfl | (exfalso; omega)
    · rw [hX] at hc0 hr
      have ha0 := (hT.2 2 (by omega)).1
      have ha1 := (hT.2 2 (by omega)).2
      simp only [Lib.accLo, Lib.accHi, Nat.reduceMul, Nat.reduceAdd, Nat.reduceEqDiff, if_true, if_false, Nat.reduceMod, Nat.reduceDiv] at ha0 ha1 hr
      clear hT hX
      by_cases hn : 3 ≤ s.size
      · have hnz : (3 : Int) ≤ (s.size : Int) := by omega
        rw [if_pos hn] at hr
        subst hr
        go_enter Tryd.func73, Tryd.ntmps73
        go_wp2
        all_goals first | (go_ret; exact ⟨rfl, Below.refl _ _⟩) | (exfalso; omega)
      · have hnz : ¬ ((3 : Int) ≤ (s.size : Int)) := by omega
        rw [if_neg hn] at hr
        by_cases hm1 : s.size = 1
        · have hm : s.size = 1 := by omega
          have hmz : (s.size : Int) = 1 := by omega
          go_enter Tryd.func73, Tryd.ntmps73
          go_wp2
          go_quiet (fail)
          go_wp2
          go_ret
          refine ⟨?_, by repeat (first | exact Below.refl _ _ | apply below_alloc | apply pw_below_drewN | apply below_drew1)⟩
          rw [← hr]
          repeat' split
          all_goals first | rfl | (exfalso; omega)
        have hm : s.size = 2 := by omega
        have hmz : (s.size : Int) = 2 := by omega
        have hs1 : s[1]'(by omega) = x1 := by rw [← hx1]; exact (Utf8W.get!_of_lt s 1 (by omega)).symm
        have hz2 : (1 : Int) < (s.size : Int) := by omega
        by_cases q : x1.toNat < 128
        · have qz : (x1.toNat : Int) < 128 := by omega
          go_enter Tryd.func73, Tryd.ntmps73
          go_wp2
          go_quiet (fail)
          go_wp2
          go_ret
          refine ⟨?_, by repeat (first | exact Below.refl _ _ | apply below_alloc | apply pw_below_drewN | apply below_drew1)⟩
          rw [← hr]
          repeat' split
          all_goals first | rfl | (exfalso; omega)
        · have qz : ¬ ((x1.toNat : Int) < 128) := by omega
          by_cases p2 : 159 < x1.toNat
          · have p2z : (159 : Int) < (x1.toNat : Int) := by omega
            go_enter Tryd.func73, Tryd.ntmps73
            go_wp2
            go_quiet (fail)
            go_wp2
            go_ret
            refine ⟨?_, by repeat (first | exact Below.refl _ _ | apply below_alloc | apply pw_below_drewN | apply below_drew1)⟩
            rw [← hr]
            repeat' split
            all_goals first | rfl | (exfalso; omega)
          · have p2z : ¬ ((159 : Int) < (x1.toNat : Int)) := by omega
            go_enter Tryd.func73, Tryd.ntmps73
            go_wp2
            go_quiet (fail)
            go_wp2
            go_ret
            refine ⟨?_, by repeat (first | exact Below.refl _ _ | apply below_alloc | apply pw_below_drewN | apply below_drew1)⟩
            rw [← hr]
            repeat' split
            all_goals first | rfl | (exfalso; omega)
    · rw [hX] at hc0 hr
      have ha0 := (hT.2 3 (by omega)).1
      have ha1 := (hT.2 3 (by omega)).2
      simp only [Lib.accLo, Lib.accHi, Nat.reduceMul, Nat.reduceAdd, Nat.reduceEqDiff, if_true, if_false, Nat.reduceMod, Nat.reduceDiv] at ha0 ha1 hr
      clear hT hX
      by_cases hn : 4 ≤ s.size
      · have hnz : (4 : Int) ≤ (s.size : Int) := by omega
        rw [if_pos hn] at hr
        subst hr
        go_enter Tryd.func73, Tryd.ntmps73
        go_wp2
        all_goals first | (go_ret; exact ⟨rfl, Below.refl _ _⟩) | (exfalso; omega)
      · have hnz : ¬ ((4 : Int) ≤ (s.size : Int)) := by omega
        rw [if_neg hn] at hr
        by_cases hm1 : s.size = 1
        · have hm : s.size = 1 := by omega
          have hmz : (s.size : Int) = 1 := by omega
          go_enter Tryd.func73, Tryd.ntmps73
          go_wp2
          go_quiet (fail)
          go_wp2
          go_ret
          refine ⟨?_, by repeat (first | exact Below.refl _ _ | apply below_alloc | apply pw_below_drewN | apply below_drew1)⟩
          rw [← hr]
          repeat' split
          all_goals first | rfl | (exfalso; omega)
        by_cases hm2 : s.size = 2
        · have hm : s.size = 2 := by omega
          have hmz : (s.size : Int) = 2 := by omega
          have hs1 : s[1]'(by omega) = x1 := by rw [← hx1]; exact (Utf8W.get!_of_lt s 1 (by omega)).symm
          have hz2 : (1 : Int) < (s.size : Int) := by omega
          by_cases q : x1.toNat < 144
          · have qz : (x1.toNat : Int) < 144 := by omega
            go_enter Tryd.func73, Tryd.ntmps73
            go_wp2
            go_quiet (fail)
            go_wp2
            go_ret
            refine ⟨?_, by repeat (first | exact Below.refl _ _ | apply below_alloc | apply pw_below_drewN | apply below_drew1)⟩
            rw [← hr]
            repeat' split
            all_goals first | rfl | (exfalso; omega)
          · have qz : ¬ ((x1.toNat : Int) < 144) := by omega
            by_cases p2 : 191 < x1.toNat
            · have p2z : (191 : Int) < (x1.toNat : Int) := by omega
              go_enter Tryd.func73, Tryd.ntmps73
              go_wp2
              go_quiet (fail)
              go_wp2
              go_ret
              refine ⟨?_, by repeat (first | exact Below.refl _ _ | apply below_alloc | apply pw_below_drewN | apply below_drew1)⟩
              rw [← hr]
              repeat' split
              all_goals first | rfl | (exfalso; omega)
            · have p2z : ¬ ((191 : Int) < (x1.toNat : Int)) := by omega
              go_enter Tryd.func73, Tryd.ntmps73
              go_wp2
              go_quiet (fail)
              go_wp2
              go_ret
              refine ⟨?_, by repeat (first | exact Below.refl _ _ | apply below_alloc | apply pw_below_drewN | apply below_drew1)⟩
              rw [← hr]
              repeat' split
              all_goals first | rfl | (exfalso; omega)
        have hm : s.size = 3 := by omega
        have hmz : (s.size : Int) = 3 := by omega
        have hs1 : s[1]'(by omega) = x1 := by rw [← hx1]; exact (Utf8W.get!_of_lt s 1 (by omega)).symm
        have hz2 : (1 : Int) < (s.size : Int) := by omega
        have hs2 : s[2]'(by omega) = x2 := by rw [← hx2]; exact (Utf8W.get!_of_lt s 2 (by omega)).symm
        have hz3 : (2 : Int) < (s.size : Int) := by omega
        by_cases q : x1.toNat < 144
        · have qz : (x1.toNat : Int) < 144 := by omega
          go_enter Tryd.func73, Tryd.ntmps73
          go_wp2
          go_quiet (fail)
          go_wp2
          go_ret
          refine ⟨?_, by repeat (first | exact Below.refl _ _ | apply below_alloc | apply pw_below_drewN | apply below_drew1)⟩
          rw [← hr]
          repeat' split
          all_goals first | rfl | (exfalso; omega)
        · have qz : ¬ ((x1.toNat : Int) < 144) := by omega
          by_cases p2 : 191 < x1.toNat
          · have p2z : (191 : Int) < (x1.toNat : Int) := by omega
            go_enter Tryd.func73, Tryd.ntmps73
            go_wp2
            go_quiet (fail)
            go_wp2
            go_ret
            refine ⟨?_, by repeat (first | exact Below.refl _ _ | apply below_alloc | apply pw_below_drewN | apply below_drew1)⟩
            rw [← hr]
            repeat' split
            all_goals first | rfl | (exfalso; omega)
          · have p2z : ¬ ((191 : Int) < (x1.toNat : Int)) := by omega
            by_cases q : x2.toNat < 128
            · have qz : (x2.toNat : Int) < 128 := by omega
              go_enter Tryd.func73, Tryd.ntmps73
              go_wp2
              go_quiet (fail)
              go_wp2
              go_ret
              refine ⟨?_, by repeat (first | exact Below.refl _ _ | apply below_alloc | apply pw_below_drewN | apply below_drew1)⟩
              rw [← hr]
              repeat' split
              all_goals first | rfl | (exfalso; omega)
            · have qz : ¬ ((x2.toNat : Int) < 128) := by omega
              by_cases q2 : 191 < x2.toNat
              · have q2z : (191 : Int) < (x2.toNat : Int) := by omega
                go_enter Tryd.func73, Tryd.ntmps73
                go_wp2
                go_quiet (fail)
                go_wp2
                go_ret
                refine ⟨?_, by repeat (first | exact Below.refl _ _ | apply below_alloc | apply pw_below_drewN | apply below_drew1)⟩
                rw [← hr]
                repeat' split
                all_goals first | rfl | (exfalso; omega)
              · have q2z : ¬ ((191 : Int) < (x2.toNat : Int)) := by omega
                go_enter Tryd.func73, Tryd.ntmps73
                go_wp2
                go_quiet (fail)
                go_wp2
                go_ret
                refine ⟨?_, by repeat (first | exact Below.refl _ _ | apply below_alloc | apply pw_below_drewN | apply below_drew1)⟩
                rw [← hr]
                repeat' split
                all_goals first | rfl | (exfalso; omega)
    · rw [hX] at hc0 hr
      have ha0 := (hT.2 0 (by omega)).1
      have ha1 := (hT.2 0 (by omega)).2
      simp only [Lib.accLo, Lib.accHi, Nat.reduceMul, Nat.reduceAdd, Nat.reduceEqDiff, if_true, if_false, Nat.reduceMod, Nat.reduceDiv] at ha0 ha1 hr
      clear hT hX
      by_cases hn : 4 ≤ s.size
      · have hnz : (4 : Int) ≤ (s.size : Int) := by omega
        rw [if_pos hn] at hr
        subst hr
        go_enter Tryd.func73, Tryd.ntmps73
        go_wp2
        all_goals first | (go_ret; exact ⟨rfl, Below.refl _ _⟩) | (exfalso; omega)
      · have hnz : ¬ ((4 : Int) ≤ (s.size : Int)) := by omega
        rw [if_neg hn] at hr
        by_cases hm1 : s.size = 1
        · have hm : s.size = 1 := by omega
          have hmz : (s.size : Int) = 1 := by omega
          go_enter Tryd.func73, Tryd.ntmps73
          go_wp2
          go_quiet (fail)
          go_wp2
          go_ret
          refine ⟨?_, by repeat (first | exact Below.refl _ _ | apply below_alloc | apply pw_below_drewN | apply below_drew1)⟩
          rw [← hr]
          repeat' split
          all_goals first | rfl | (exfalso; omega)
        by_cases hm2 : s.size = 2
        · have hm : s.size = 2 := by omega
          have hmz : (s.size : Int) = 2 := by omega
          have hs1 : s[1]'(by omega) = x1 := by rw [← hx1]; exact (Utf8W.get!_of_lt s 1 (by omega)).symm
          have hz2 : (1 : Int) < (s.size : Int) := by omega
          by_cases q : x1.toNat < 128
          · have qz : (x1.toNat : Int) < 128 := by omega
            go_enter Tryd.func73, Tryd.ntmps73
            go_wp2
            go_quiet (fail)
            go_wp2
            go_ret
            refine ⟨?_, by repeat (first | exact Below.refl _ _ | apply below_alloc | apply pw_below_drewN | apply below_drew1)⟩
            rw [← hr]
            repeat' split
            all_goals first | rfl | (exfalso; omega)
          · have qz : ¬ ((x1.toNat : Int) < 128) := by omega
            by_cases p2 : 191 < x1.toNat
            · have p2z : (191 : Int) < (x1.toNat : Int) := by omega
              go_enter Tryd.func73, Tryd.ntmps73
              go_wp2
              go_quiet (fail)
              go_wp2
              go_ret
              refine ⟨?_, by repeat (first | exact Below.refl _ _ | apply below_alloc | apply pw_below_drewN | apply below_drew1)⟩
              rw [← hr]
              repeat' split
              all_goals first | rfl | (exfalso; omega)
            · have p2z : ¬ ((191 : Int) < (x1.toNat : Int)) := by omega
              go_enter Tryd.func73, Tryd.ntmps73
              go_wp2
              go_quiet (fail)
              go_wp2
              go_ret
              refine ⟨?_, by repeat (first | exact Below.refl _ _ | apply below_alloc | apply pw_below_drewN | apply below_drew1)⟩
              rw [← hr]
              repeat' split
              all_goals first | rfl | (exfalso; omega)
        have hm : s.size = 3 := by omega
        have hmz : (s.size : Int) = 3 := by omega
        have hs1 : s[1]'(by omega) = x1 := by rw [← hx1]; exact (Utf8W.get!_of_lt s 1 (by omega)).symm
        have hz2 : (1 : Int) < (s.size : Int) := by omega
        have hs2 : s[2]'(by omega) = x2 := by rw [← hx2]; exact (Utf8W.get!_of_lt s 2 (by omega)).symm
        have hz3 : (2 : Int) < (s.size : Int) := by omega
        by_cases q : x1.toNat < 128
        · have qz : (x1.toNat : Int) < 128 := by omega
          go_enter Tryd.func73, Tryd.ntmps73
          go_wp2
          go_quiet (fail)
          go_wp2
          go_ret
          refine ⟨?_, by repeat (first | exact Below.refl _ _ | apply below_alloc | apply pw_below_drewN | apply below_drew1)⟩
          rw [← hr]
          repeat' split
          all_goals first | rfl | (exfalso; omega)
        · have qz : ¬ ((x1.toNat : Int) < 128) := by omega
          by_cases p2 : 191 < x1.toNat
          · have p2z : (191 : Int) < (x1.toNat : Int) := by omega
            go_enter Tryd.func73, Tryd.ntmps73
            go_wp2
            go_quiet (fail)
            go_wp2
            go_ret
            refine ⟨?_, by repeat (first | exact Below.refl _ _ | apply below_alloc | apply pw_below_drewN | apply below_drew1)⟩
            rw [← hr]
            repeat' split
            all_goals first | rfl | (exfalso; omega)
          · have p2z : ¬ ((191 : Int) < (x1.toNat : Int)) := by omega
            by_cases q : x2.toNat < 128
            · have qz : (x2.toNat : Int) < 128 := by omega
              go_enter Tryd.func73, Tryd.ntmps73
              go_wp2
              go_quiet (fail)
              go_wp2
              go_ret
              refine ⟨?_, by repeat (first | exact Below.refl _ _ | apply below_alloc | apply pw_below_drewN | apply below_drew1)⟩
              rw [← hr]
              repeat' split
              all_goals first | rfl | (exfalso; omega)
            · have qz : ¬ ((x2.toNat : Int) < 128) := by omega
              by_cases q2 : 191 < x2.toNat
              · have q2z : (191 : Int) < (x2.toNat : Int) := by omega
                go_enter Tryd.func73, Tryd.ntmps73
                go_wp2
                go_quiet (fail)
                go_wp2
                go_ret
                refine ⟨?_, by repeat (first | exact Below.refl _ _ | apply below_alloc | apply pw_below_drewN | apply below_drew1)⟩
                rw [← hr]
                repeat' split
                all_goals first | rfl | (exfalso; omega)
              · have q2z : ¬ ((191 : Int) < (x2.toNat : Int)) := by omega
                go_enter Tryd.func73, Tryd.ntmps73
                go_wp2
                go_quiet (fail)
                go_wp2
                go_ret
                refine ⟨?_, by repeat (first | exact Below.refl _ _ | apply below_alloc | apply pw_below_drewN | apply below_drew1)⟩
                rw [← hr]
                repeat' split
                all_goals first | rfl | (exfalso; omega)
    · rw [hX] at hc0 hr
      have ha0 := (hT.2 4 (by omega)).1
      have ha1 := (hT.2 4 (by omega)).2
      simp only [Lib.accLo, Lib.accHi, Nat.reduceMul, Nat.reduceAdd, Nat.reduceEqDiff, if_true, if_false, Nat.reduceMod, Nat.reduceDiv] at ha0 ha1 hr
      clear hT hX
      by_cases hn : 4 ≤ s.size
      · have hnz : (4 : Int) ≤ (s.size : Int) := by omega
        rw [if_pos hn] at hr
        subst hr
        go_enter Tryd.func73, Tryd.ntmps73
        go_wp2
        all_goals first | (go_ret; exact ⟨rfl, Below.refl _ _⟩) | (exfalso; omega)
      · have hnz : ¬ ((4 : Int) ≤ (s.size : Int)) := by omega
        rw [if_neg hn] at hr
        by_cases hm1 : s.size = 1
        · have hm : s.size = 1 := by omega
          have hmz : (s.size : Int) = 1 := by omega
          go_enter Tryd.func73, Tryd.ntmps73
          go_wp2
          go_quiet (fail)
          go_wp2
          go_ret
          refine ⟨?_, by repeat (first | exact Below.refl _ _ | apply below_alloc | apply pw_below_drewN | apply below_drew1)⟩
          rw [← hr]
          repeat' split
          all_goals first | rfl | (exfalso; omega)
        by_cases hm2 : s.size = 2
        · have hm : s.size = 2 := by omega
          have hmz : (s.size : Int) = 2 := by omega
          have hs1 : s[1]'(by omega) = x1 := by rw [← hx1]; exact (Utf8W.get!_of_lt s 1 (by omega)).symm
          have hz2 : (1 : Int) < (s.size : Int) := by omega
          by_cases q : x1.toNat < 128
          · have qz : (x1.toNat : Int) < 128 := by omega
            go_enter Tryd.func73, Tryd.ntmps73
            go_wp2
            go_quiet (fail)
            go_wp2
            go_ret
            refine ⟨?_, by repeat (first | exact Below.refl _ _ | apply below_alloc | apply pw_below_drewN | apply below_drew1)⟩
            rw [← hr]
            repeat' split
            all_goals first | rfl | (exfalso; omega)
          · have qz : ¬ ((x1.toNat : Int) < 128) := by omega
            by_cases p2 : 143 < x1.toNat
            · have p2z : (143 : Int) < (x1.toNat : Int) := by omega
              go_enter Tryd.func73, Tryd.ntmps73
              go_wp2
              go_quiet (fail)
              go_wp2
              go_ret
              refine ⟨?_, by repeat (first | exact Below.refl _ _ | apply below_alloc | apply pw_below_drewN | apply below_drew1)⟩
              rw [← hr]
              repeat' split
              all_goals first | rfl | (exfalso; omega)
            · have p2z : ¬ ((143 : Int) < (x1.toNat : Int)) := by omega
              go_enter Tryd.func73, Tryd.ntmps73
              go_wp2
              go_quiet (fail)
              go_wp2
              go_ret
              refine ⟨?_, by repeat (first | exact Below.refl _ _ | apply below_alloc | apply pw_below_drewN | apply below_drew1)⟩
              rw [← hr]
              repeat' split
              all_goals first | rfl | (exfalso; omega)
        have hm : s.size = 3 := by omega
        have hmz : (s.size : Int) = 3 := by omega
        have hs1 : s[1]'(by omega) = x1 := by rw [← hx1]; exact (Utf8W.get!_of_lt s 1 (by omega)).symm
        have hz2 : (1 : Int) < (s.size : Int) := by omega
        have hs2 : s[2]'(by omega) = x2 := by rw [← hx2]; exact (Utf8W.get!_of_lt s 2 (by omega)).symm
        have hz3 : (2 : Int) < (s.size : Int) := by omega
        by_cases q : x1.toNat < 128
        · have qz : (x1.toNat : Int) < 128 := by omega
          go_enter Tryd.func73, Tryd.ntmps73
          go_wp2
          go_quiet (fail)
          go_wp2
          go_ret
          refine ⟨?_, by repeat (first | exact Below.refl _ _ | apply below_alloc | apply pw_below_drewN | apply below_drew1)⟩
          rw [← hr]
          repeat' split
          all_goals first | rfl | (exfalso; omega)
        · have qz : ¬ ((x1.toNat : Int) < 128) := by omega
          by_cases p2 : 143 < x1.toNat
          · have p2z : (143 : Int) < (x1.toNat : Int) := by omega
            go_enter Tryd.func73, Tryd.ntmps73
            go_wp2
            go_quiet (fail)
            go_wp2
            go_ret
            refine ⟨?_, by repeat (first | exact Below.refl _ _ | apply below_alloc | apply pw_below_drewN | apply below_drew1)⟩
            rw [← hr]
            repeat' split
            all_goals first | rfl | (exfalso; omega)
          · have p2z : ¬ ((143 : Int) < (x1.toNat : Int)) := by omega
            by_cases q : x2.toNat < 128
            · have qz : (x2.toNat : Int) < 128 := by omega
              go_enter Tryd.func73, Tryd.ntmps73
              go_wp2
              go_quiet (fail)
              go_wp2
              go_ret
              refine ⟨?_, by repeat (first | exact Below.refl _ _ | apply below_alloc | apply pw_below_drewN | apply below_drew1)⟩
              rw [← hr]
              repeat' split
              all_goals first | rfl | (exfalso; omega)
            · have qz : ¬ ((x2.toNat : Int) < 128) := by omega
              by_cases q2 : 191 < x2.toNat
              · have q2z : (191 : Int) < (x2.toNat : Int) := by omega
                go_enter Tryd.func73, Tryd.ntmps73
                go_wp2
                go_quiet (fail)
                go_wp2
                go_ret
                refine ⟨?_, by repeat (first | exact Below.refl _ _ | apply below_alloc | apply pw_below_drewN | apply below_drew1)⟩
                rw [← hr]
                repeat' split
                all_goals first | rfl | (exfalso; omega)
              · have q2z : ¬ ((191 : Int) < (x2.toNat : Int)) := by omega
                go_enter Tryd.func73, Tryd.ntmps73
                go_wp2
                go_quiet (fail)
                go_wp2
                go_ret
                refine ⟨?_, by repeat (first | exact Below.refl _ _ | apply below_alloc | apply pw_below_drewN | apply below_drew1)⟩
                rw [← hr]
                repeat' split
                all_goals first | rfl | (exfalso; omega)

end Go.Proofs.YtkljnfinjacejaaDoor.PB
