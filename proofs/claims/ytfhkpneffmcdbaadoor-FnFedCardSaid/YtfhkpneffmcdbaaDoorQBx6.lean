/- Contracts of Go functions that laws of this seat reach: each Lean function answers as its Go function does. No condition. Written by wip/tools/inj.py, over the kit's print. -/
import Derived.Test.YtfhkpneffmcdbaaDoorQBx0
import Derived.Test.YtfhkpneffmcdbaaDoorQBx2
import Derived.Test.YtfhkpneffmcdbaaDoorQBx5
namespace Go.Proofs.YtfhkpneffmcdbaaDoor.QB
open Go.RowKit Go.Proofs.YtfhkpneffmcdbaaDoorW.PrintWords Go.Proofs.YtfhkpneffmcdbaaDoorW.PrintLast Go.Proofs.YtfhkpneffmcdbaaDoorW.PrintMore
attribute [local go_sem] max2_int min2_int max_two min_two max_three min_three max_four min_four   -- for this text's walks alone
set_option linter.unusedVariables false
set_option linter.unusedSimpArgs false

/-! ### spec_Text: function 18 -/
def spec_Text.l0 : Nat → List Int → List Int → Int → Option (ByteArray)
 | 0, _, _, _ => none
 | k + 1, x0, x3, x4 => if x4 < (x0.length : Int) then (if 0 ≤ x4 then ((spec_RuneOk.f (rd x0 x4)).bind fun t252 => (if t252 = true then ((spec_l1Put.f (rd x0 x4)).bind fun t253 => (if x3.length + t253.length < 140737488355328 then (spec_Text.l0 k x0 (x3 ++ t253) (wrap64 (x4 + 1))) else (none))) else ((spec_l1Put.f 65533).bind fun t259 => (if x3.length + t259.length < 140737488355328 then (spec_Text.l0 k x0 (x3 ++ t259) (wrap64 (x4 + 1))) else (none))))) else (none)) else (some (strOfNums x3))
def spec_Text.f (k : Nat) (l0 : List Int) : Option (ByteArray) := spec_Text.l0 k l0 (([] : List Int)) 0
theorem spec_Text.mono_l : ∀ k, (∀ y0 y1 y2, LeO (spec_Text.l0 k y0 y1 y2) (spec_Text.l0 (k + 1) y0 y1 y2))
 | 0 => fun _ _ _ r h => by simp [spec_Text.l0] at h
 | k + 1 => by
  have ih0 := spec_Text.mono_l k
  ·intro y0 y1 y2
   unfold spec_Text.l0
   repeat' first
   | (with_reducible exact ih0 _ _ _)
   | (with_reducible exact LeO.refl _)
   | (with_reducible exact LeO.none _)
   | (with_reducible refine LeO.ite ?_ ?_)
   | (with_reducible refine LeO.bind ?_ (fun _ => ?_))
theorem spec_Text.mono : ∀ a0 k, LeO (spec_Text.f k a0) (spec_Text.f (k + 1) a0) := by
 intro a0 k
 have ih0 := spec_Text.mono_l k
 unfold spec_Text.f
 repeat' first
   | (with_reducible exact ih0 _ _ _)
   | (with_reducible exact LeO.refl _)
   | (with_reducible exact LeO.none _)
   | (with_reducible refine LeO.ite ?_ ?_)
   | (with_reducible refine LeO.bind ?_ (fun _ => ?_))
set_option maxHeartbeats 8000000 in
set_option maxRecDepth 100000 in
theorem spec_Text.calls (k : Nat) (A0 : Option Addr) (c0 : Nat) (l0 : List Int) (r : ByteArray) (w : World) (hr0 : Kd.C (Kd.int .i64) w A0 l0.length l0) (hc0 : l0.length ≤ c0) (h : spec_Text.f k l0 = some r) :
  Calls Tryd.prog 18 #[.slice A0 l0.length c0] w fun e w' => e = .returned (.string r) ∧ Below w.heap.size w w' := by
 have HR0 := am hr0
 have HC0 := am hc0
 clear hr0 hc0
 have HB := am (Below.refl w.heap.size w)
 have H : (spec_Text.l0 k l0 (([] : List Int)) 0) = some r := h
 clear h
 obtain ⟨y248, hy248⟩ : ∃ y_ : List Int, y_ = (([] : List Int)) := ⟨_, rfl⟩
 replace H : (spec_Text.l0 k l0 y248 0) = some r := by first | (rw [hy248]; with_reducible exact H) | (rw [hy248]; exact H) | exact H
 have Ny248 := am hy248
 clear hy248
 have H' := am H
 clear H
 go_enter Tryd.func18, Tryd.ntmps18
 go_wp2_with (first | ((with_reducible refine gate_dst (N := 6) rfl ?_); refine Kd.R_lit (Kd.int .u8) _ 5 ?hg (N := 6) ?hd (xs := ([] : List Int)) (inner := []) (ok := fun _ => True) (okp := fun _ => True) ?hr ?hp (fun _ hk => hk) trivial (Below.refl _ _) (Nat.le_refl _) (by simp) ?_; (case hd => rfl); (case hg => rfl); (case hr => first | (go_simp; done) | (go_simp; rfl)); (case hp => exact (Reps.none _ _)); intro v249 w2 ho3 hb hg_ hnew_; clear hg_ hnew_; (first | rw [← Ny248.out] at ho3 | (simp only [Int.reduceToNat] at ho3; rw [← Ny248.out] at ho3)); have n0_ := am (Kd.R_lower ho3 (below_size (rb HB))); have n1_ := am (below_step (rb HB) hb); clear HB; have HO250 := n0_; have HB := n1_; clear n0_ n1_; clear hb ho3))
 go_loopg [3, 4] k (fun kq v3 v4 w' => ∃ (x3_1 : List Int) (x4_1 : Int), v4 = .int .i64 x4_1 ∧ Aside0 (spec_Text.l0 kq l0 x3_1 x4_1 = some r) ∧ Aside0 (kq ≤ k) ∧ Aside0 (Kd.R (Kd.int .u8) 5 w' w.heap.size (fun _ => True) v3 x3_1) ∧ Aside0 (Below w.heap.size w w'))
 case atStart => exact ⟨(y248), (0), (by first | rfl | (simp; done) | (simp [*]; done)), H', ⟨Nat.le_refl _⟩, ⟨rr HO250⟩, ⟨rb HB⟩⟩
 case round =>
  clear H'
  try clear c1
  try clear p2
  obtain ⟨x3_1, x4_1, rfl, HA, HK1, HO_3, HB⟩ := hrel
  cases gk with
  | zero => exact absurd HA.out (by simp [spec_Text.l0])
  | succ k1 =>
   have H := HA.out
   clear HA
   simp only [spec_Text.l0] at H
   refine em_ (p := x4_1 < (l0.length : Int)) (fun c4 => ?g2p) (fun c4 => ?g2n)
   case g2p =>
    rw [if_pos c4] at H
    have c4b0 : decide (x4_1 < (l0.length : Int)) = true := decide_eq_true c4
    clear c4
    by_cases c5 : 0 ≤ x4_1
    ·rw [if_pos c5] at H
     have c5b0 : decide (0 ≤ x4_1) = true := decide_eq_true c5
     clear c5
     replace H := Option.bind_eq_some_iff.mp H
     obtain ⟨t252, A60, H⟩ := H
     (try dsimp only at H)
     have A6 := am A60
     clear A60
     by_cases c7 : t252 = true
     ·subst c7
      rw [if_pos rfl] at H
      replace H := Option.bind_eq_some_iff.mp H
      obtain ⟨t253, A80, H⟩ := H
      (try dsimp only at H)
      have A8 := am A80
      clear A80
      refine em_ (p := x3_1.length + t253.length < 140737488355328) (fun c9 => ?g0p) (fun c9 => ?g0n)
      case' g0p =>
       rw [if_pos c9] at H
       have LMc9 := am c9
       clear c9
       obtain ⟨y256, hy256⟩ : ∃ y_ : List Int, y_ = (x3_1 ++ t253) := ⟨_, rfl⟩
       replace H : (spec_Text.l0 k1 l0 y256 (wrap64 (x4_1 + 1))) = some r := by first | (rw [hy256]; with_reducible exact H) | (rw [hy256]; exact H) | exact H
       have Ny256 := am hy256
       clear hy256
       have H' := am H
       clear H
       have lf1_ := trivial
      case g0n =>
       rw [if_neg c9] at H
       exact absurd H (by simp)
      all_goals
       have p251 : 0 ≤ (x4_1 : Int) := dt_
       have q251 : x4_1 < (l0.length : Int) := dt_
       obtain ⟨ad251, e251, hx251_0⟩ := Kd.at_int HR0.out x4_1 p251 q251
       cases e251
       replace hx251_0 := mv HB.out hx251_0
       replace p251 := eq_true p251
       replace q251 := eq_true q251
       go_wp2_with (first | ((with_reducible refine gate_callee (f := 24) rfl ?_); refine gl_ (some 18) Tryd.func24 #[.int .i64 (rd l0 x4_1)] ?_; (with_reducible refine (spec_RuneOk.calls (rd l0 x4_1) true _ A6.out).mono ?_); rintro e w' ⟨rfl, ⟨nd, rfl⟩⟩; refine ⟨_, rfl, ?_⟩) | ((with_reducible refine gate_callee (f := 57) rfl ?_); refine gl_ (some 22) Tryd.func57 #[.int .i64 (rd l0 x4_1)] ?_; (with_reducible refine (spec_l1Put.calls (rd l0 x4_1) t253 _ A8.out).mono ?_); rintro e w10 ⟨v254, rfl, ho0, hb⟩; refine ⟨_, rfl, ?_⟩; have n0_ := am (Kd.R_elder' (rr HO_3) (Kd.R_base ho0) hb); have n1_ := am (Kd.R_lower (Kd.R_new' ho0 (Kd.R_lt (rr HO_3))) (below_size (rb HB))); have n2_ := am (below_step (rb HB) hb); clear HO_3; clear HB; have HO_3 := n0_; have HO255 := n1_; have HB := n2_; clear n0_ n1_ n2_; (try clear hb); (try clear hb2); (try clear hk); (try clear hi); (try clear ho0); obtain ⟨Ao12, co12, eo12⟩ := Kd.R_slice HO255.out; subst eo12) | ((with_reducible refine gate_builtin (b := .append) (xs := #[.tmp 20, .tmp 22]) rfl ?_); at_builtin; refine Kd.R_append_rows (Kd.int .u8) (w0 := w) w.heap.size rfl (.tmp 20) (.tmp 22) 22 5 (.int .u8 0) 1 rfl Tryd.underlying22 info5 rfl (by decide) (by omega) u3 x3_1 t253 _ _ _ (fun k_ => some k_ ≠ (.slice Ao12 t253.length co12 : Value).ownBlock) (fun _ => False) rfl rfl ?aO ?aR (fun _ _ h => h) (fun _ h => h.elim) ?aF ?aB ?aS ?aL ?_; (case aR => repeat (first | exact (Kd.R_reads' HO255.out).2.2 | (with_reducible refine Kd.C_alloc ?_ _) | (with_reducible refine Kd.C_drewN ?_ _) | (with_reducible refine Kd.C_drew ?_))); (case aB => exact (rb HB)); (case aF => exact (fun k_ hk => Kd.fresh' (Kd.R_lt (rr HO255)) k_ hk)); (case aO => exact (by (with_reducible repeat (first | apply r1 | apply r2 | apply r3)); exact Kd.R_mono HO_3.out (fun _ hk => hk.2))); (case aS => exact (below_size (rb HB))); (case aL => have := LMc9.out; omega); intro v257 w11 ho hb hg hat; rw [← Ny256.out] at ho; have n0_ := am (Kd.R_after (ok := (fun _ => True)) (rr HO255) hg hat); have n1_ := am (hb); have n2_ := am (ho); clear HO255; clear HB; clear HO_3; have HO255 := n0_; have HB := n1_; have HO258 := n2_; clear n0_ n1_ n2_; clear ho hb hg hat))
       go_roundg k1
       case measure => have := HK1.out; omega
       case rel => exact ⟨(y256), (wrap64 (x4_1 + 1)), (by first | rfl | (simp; done) | (simp [*]; done)), H', ⟨by have := HK1.out; omega⟩, ⟨by (with_reducible repeat (first | apply r1 | apply r2 | apply r3)); exact Kd.R_mono HO258.out (fun _ hk => trivial)⟩, ⟨rb HB⟩⟩
     ·replace c7 := Bool.eq_false_iff.mpr c7
      subst c7
      rw [if_neg (show ¬ (false = true) by decide)] at H
      replace H := Option.bind_eq_some_iff.mp H
      obtain ⟨t259, A130, H⟩ := H
      (try dsimp only at H)
      have A13 := am A130
      clear A130
      refine em_ (p := x3_1.length + t259.length < 140737488355328) (fun c14 => ?g1p) (fun c14 => ?g1n)
      case' g1p =>
       rw [if_pos c14] at H
       have LMc14 := am c14
       clear c14
       obtain ⟨y262, hy262⟩ : ∃ y_ : List Int, y_ = (x3_1 ++ t259) := ⟨_, rfl⟩
       replace H : (spec_Text.l0 k1 l0 y262 (wrap64 (x4_1 + 1))) = some r := by first | (rw [hy262]; with_reducible exact H) | (rw [hy262]; exact H) | exact H
       have Ny262 := am hy262
       clear hy262
       have H' := am H
       clear H
       have lf2_ := trivial
      case g1n =>
       rw [if_neg c14] at H
       exact absurd H (by simp)
      all_goals
       have p251 : 0 ≤ (x4_1 : Int) := dt_
       have q251 : x4_1 < (l0.length : Int) := dt_
       obtain ⟨ad251, e251, hx251_0⟩ := Kd.at_int HR0.out x4_1 p251 q251
       cases e251
       replace hx251_0 := mv HB.out hx251_0
       replace p251 := eq_true p251
       replace q251 := eq_true q251
       go_wp2_with (first | ((with_reducible refine gate_callee (f := 24) rfl ?_); refine gl_ (some 18) Tryd.func24 #[.int .i64 (rd l0 x4_1)] ?_; (with_reducible refine (spec_RuneOk.calls (rd l0 x4_1) false _ A6.out).mono ?_); rintro e w' ⟨rfl, ⟨nd, rfl⟩⟩; refine ⟨_, rfl, ?_⟩) | ((with_reducible refine gate_callee (f := 57) rfl ?_); refine gl_ (some 22) Tryd.func57 #[.int .i64 65533] ?_; (with_reducible refine (spec_l1Put.calls 65533 t259 _ A13.out).mono ?_); rintro e w15 ⟨v260, rfl, ho0, hb⟩; refine ⟨_, rfl, ?_⟩; have n0_ := am (Kd.R_elder' (rr HO_3) (Kd.R_base ho0) hb); have n1_ := am (Kd.R_lower (Kd.R_new' ho0 (Kd.R_lt (rr HO_3))) (below_size (rb HB))); have n2_ := am (below_step (rb HB) hb); clear HO_3; clear HB; have HO_3 := n0_; have HO261 := n1_; have HB := n2_; clear n0_ n1_ n2_; (try clear hb); (try clear hb2); (try clear hk); (try clear hi); (try clear ho0); obtain ⟨Ao17, co17, eo17⟩ := Kd.R_slice HO261.out; subst eo17) | ((with_reducible refine gate_builtin (b := .append) (xs := #[.tmp 20, .tmp 22]) rfl ?_); at_builtin; refine Kd.R_append_rows (Kd.int .u8) (w0 := w) w.heap.size rfl (.tmp 20) (.tmp 22) 22 5 (.int .u8 0) 1 rfl Tryd.underlying22 info5 rfl (by decide) (by omega) u3 x3_1 t259 _ _ _ (fun k_ => some k_ ≠ (.slice Ao17 t259.length co17 : Value).ownBlock) (fun _ => False) rfl rfl ?aO ?aR (fun _ _ h => h) (fun _ h => h.elim) ?aF ?aB ?aS ?aL ?_; (case aR => repeat (first | exact (Kd.R_reads' HO261.out).2.2 | (with_reducible refine Kd.C_alloc ?_ _) | (with_reducible refine Kd.C_drewN ?_ _) | (with_reducible refine Kd.C_drew ?_))); (case aB => exact (rb HB)); (case aF => exact (fun k_ hk => Kd.fresh' (Kd.R_lt (rr HO261)) k_ hk)); (case aO => exact (by (with_reducible repeat (first | apply r1 | apply r2 | apply r3)); exact Kd.R_mono HO_3.out (fun _ hk => hk.2))); (case aS => exact (below_size (rb HB))); (case aL => have := LMc14.out; omega); intro v263 w16 ho hb hg hat; rw [← Ny262.out] at ho; have n0_ := am (Kd.R_after (ok := (fun _ => True)) (rr HO261) hg hat); have n1_ := am (hb); have n2_ := am (ho); clear HO261; clear HB; clear HO_3; have HO261 := n0_; have HB := n1_; have HO264 := n2_; clear n0_ n1_ n2_; clear ho hb hg hat))
       go_roundg k1
       case measure => have := HK1.out; omega
       case rel => exact ⟨(y262), (wrap64 (x4_1 + 1)), (by first | rfl | (simp; done) | (simp [*]; done)), H', ⟨by have := HK1.out; omega⟩, ⟨by (with_reducible repeat (first | apply r1 | apply r2 | apply r3)); exact Kd.R_mono HO264.out (fun _ hk => trivial)⟩, ⟨rb HB⟩⟩
    ·rw [if_neg c5] at H
     exact absurd H (by simp)
   case' g2n =>
    rw [if_neg c4] at H
    have c4b0 : decide (x4_1 < (l0.length : Int)) = false := decide_eq_false c4
    clear c4
    obtain rfl := Option.some.inj H
    have hcv18 := own_string (P := Tryd.prog) Tryd.underlying22 Tryd.underlying5 Tryd.underlying9 (Kd.own_of_R HO_3.out)
    have lf3_ := trivial
   all_goals
    go_wp2
    go_ret
    exact ⟨by first | rfl | (simp [errW_none, errW_some] <;> rfl) | (simp [*, errW_none, errW_some] <;> rfl), by repeat (first | (with_reducible first | exact HB.out | apply b1 | apply b2 | apply b3) | exact HB.out)⟩

end Go.Proofs.YtfhkpneffmcdbaaDoor.QB
