/- Contracts of Go functions that laws of this seat reach: each Lean function answers as its Go function does. No condition. Written by wip/tools/inj.py, over the kit's print. -/
import Derived.Test.YtalopdcephohgaaRDx0
import Derived.Test.YtalopdcephohgaaRDx33
namespace Go.Proofs.Ytalopdcephohgaa.RD
open Go.RowKit Go.Proofs.YtalopdcephohgaaW.PrintWords Go.Proofs.YtalopdcephohgaaW.PrintLast Go.Proofs.YtalopdcephohgaaW.PrintMore
attribute [local go_sem] max2_int min2_int max_two min_two max_three min_three max_four min_four   -- for this text's walks alone
set_option linter.unusedVariables false
set_option linter.unusedSimpArgs false

/-! ### laws_likeGrid: function 47 -/
mutual
def laws_likeGrid.j0 : Nat → Bool → Int → List (List (S98)) → Int → List (List (S98)) → Option (Bool)
 | 0, _, _, _, _, _ => none
 | k + 1, ae, a8, a9, aa, ac => if ae = true then (some false) else (laws_likeGrid.l0 k 0 a8 a9 aa ac)
def laws_likeGrid.l0 : Nat → Int → Int → List (List (S98)) → Int → List (List (S98)) → Option (Bool)
 | 0, _, _, _, _, _ => none
 | k + 1, x5, aa, a8, ac, a9 => if x5 < (a8.length : Int) then (if 0 ≤ x5 then (if x5 < (a9.length : Int) then ((laws_likeRow.f k (rd_L5 a8 x5) (rd_L5 a9 x5)).bind fun ae => (if ae = true then (laws_likeGrid.l0 k (wrap64 (x5 + 1)) aa a8 ac a9) else (some false))) else (none)) else (none)) else (some true)
end
def laws_likeGrid.f (k : Nat) (a8 : Int) (aa : List (List (S98))) (a9 : Int) (ac : List (List (S98))) : Option (Bool) := if a8 = a9 then (laws_likeGrid.j0 k ((aa.length : Int) != (ac.length : Int)) a8 aa a9 ac) else (laws_likeGrid.j0 k true a8 aa a9 ac)
theorem laws_likeGrid.mono_l : ∀ k, (∀ y0 y1 y2 y3 y4, LeO (laws_likeGrid.j0 k y0 y1 y2 y3 y4) (laws_likeGrid.j0 (k + 1) y0 y1 y2 y3 y4)) ∧ (∀ y0 y1 y2 y3 y4, LeO (laws_likeGrid.l0 k y0 y1 y2 y3 y4) (laws_likeGrid.l0 (k + 1) y0 y1 y2 y3 y4))
 | 0 => ⟨fun _ _ _ _ _ r h => by simp [laws_likeGrid.j0] at h, fun _ _ _ _ _ r h => by simp [laws_likeGrid.l0] at h⟩
 | k + 1 => by
  obtain ⟨ih0, ih1⟩ := laws_likeGrid.mono_l k
  refine ⟨?_, ?_⟩
  ·intro y0 y1 y2 y3 y4
   unfold laws_likeGrid.j0
   repeat' first
   | (with_reducible exact ih0 _ _ _ _ _)
   | (with_reducible exact ih1 _ _ _ _ _)
   | (with_reducible exact laws_likeRow.mono _ _ _)
   | (with_reducible exact LeO.refl _)
   | (with_reducible exact LeO.none _)
   | (with_reducible refine LeO.ite ?_ ?_)
   | (with_reducible refine LeO.bind ?_ (fun _ => ?_))
  ·intro y0 y1 y2 y3 y4
   unfold laws_likeGrid.l0
   repeat' first
   | (with_reducible exact ih0 _ _ _ _ _)
   | (with_reducible exact ih1 _ _ _ _ _)
   | (with_reducible exact laws_likeRow.mono _ _ _)
   | (with_reducible exact LeO.refl _)
   | (with_reducible exact LeO.none _)
   | (with_reducible refine LeO.ite ?_ ?_)
   | (with_reducible refine LeO.bind ?_ (fun _ => ?_))
theorem laws_likeGrid.mono : ∀ a0 a1 a2 a3 k, LeO (laws_likeGrid.f k a0 a1 a2 a3) (laws_likeGrid.f (k + 1) a0 a1 a2 a3) := by
 intro a0 a1 a2 a3 k
 obtain ⟨ih0, ih1⟩ := laws_likeGrid.mono_l k
 unfold laws_likeGrid.f
 repeat' first
   | (with_reducible exact ih0 _ _ _ _ _)
   | (with_reducible exact ih1 _ _ _ _ _)
   | (with_reducible exact laws_likeRow.mono _ _ _)
   | (with_reducible exact LeO.refl _)
   | (with_reducible exact LeO.none _)
   | (with_reducible refine LeO.ite ?_ ?_)
   | (with_reducible refine LeO.bind ?_ (fun _ => ?_))
set_option maxHeartbeats 8000000 in
set_option maxRecDepth 100000 in
theorem laws_likeGrid.calls (k : Nat) (af : Int) (ao : Option Addr) (aq : Nat) (aa : List (List (S98))) (ag : Int) (ap : Option Addr) (au : Nat) (ac : List (List (S98))) (r : Bool) (w : World) (aY : Kd.C (Kd.slice 98 k98) w ao aa.length aa) (aW : aa.length ≤ aq) (aZ : Kd.C (Kd.slice 98 k98) w ap ac.length ac) (aX : ac.length ≤ au) (h : laws_likeGrid.f k af aa ag ac = some r) :
  Calls Try.prog 47 #[.agg #[.int .i64 af, .slice ao aa.length aq], .agg #[.int .i64 ag, .slice ap ac.length au]] w fun e w' => e = .returned (.bool r) ∧ Below w.heap.size w w' := by
 (
have bI := Try.underlying58
have b5 := am aY
have bC := am aW
clear aY aW
have b6 := am aZ
have bD := am aX
clear aZ aX
have HB := am (Below.refl w.heap.size w)
have H := h
unfold laws_likeGrid.f at H
clear h
have b4 := am H
clear H
go_enter Try.func47, Try.ntmps47
go_upto_region 1 with (first | ((with_reducible refine gate_dst (N := 2) rfl ?_); (try (refine gate_guard (by rfl) ?_; dsimp only)); refine bx 2 #[.int .i64 af, .slice ao aa.length aq] 58 ?_; intro az hg w4 hbox hb; have a9 := am (hbox); have av := am (gw hg (rb HB)); have aU := av; replace HB := bs HB hb; clear hb hbox hg) | ((with_reducible refine gate_dst (N := 3) rfl ?_); (try (refine gate_guard (by rfl) ?_; dsimp only)); refine bx 3 #[.int .i64 ag, .slice ap ac.length au] 58 ?_; intro aA hg w5 hbox hb; have ah := am (hbox); have ax := am (gw hg (rb HB)); have aV := ax; replace HB := bs HB hb; have ae := am (nl hg (rk a9)); have ay := ns ae; replace a9 := kk a9 hb; clear hb hbox hg))
repeat (go_quiet (first | ((with_reducible refine gate_dst (N := 2) rfl ?_); (try (refine gate_guard (by rfl) ?_; dsimp only)); refine bx 2 #[.int .i64 af, .slice ao aa.length aq] 58 ?_; intro az hg w4 hbox hb; have a9 := am (hbox); have av := am (gw hg (rb HB)); have aU := av; replace HB := bs HB hb; clear hb hbox hg) | ((with_reducible refine gate_dst (N := 3) rfl ?_); (try (refine gate_guard (by rfl) ?_; dsimp only)); refine bx 3 #[.int .i64 ag, .slice ap ac.length au] 58 ?_; intro aA hg w5 hbox hb; have ah := am (hbox); have ax := am (gw hg (rb HB)); have aV := ax; replace HB := bs HB hb; have ae := am (nl hg (rk a9)); have ay := ns ae; replace a9 := kk a9 hb; clear hb hbox hg)); go_upto_region 1 with (first | ((with_reducible refine gate_dst (N := 2) rfl ?_); (try (refine gate_guard (by rfl) ?_; dsimp only)); refine bx 2 #[.int .i64 af, .slice ao aa.length aq] 58 ?_; intro az hg w4 hbox hb; have a9 := am (hbox); have av := am (gw hg (rb HB)); have aU := av; replace HB := bs HB hb; clear hb hbox hg) | ((with_reducible refine gate_dst (N := 3) rfl ?_); (try (refine gate_guard (by rfl) ?_; dsimp only)); refine bx 3 #[.int .i64 ag, .slice ap ac.length au] 58 ?_; intro aA hg w5 hbox hb; have ah := am (hbox); have ax := am (gw hg (rb HB)); have aV := ax; replace HB := bs HB hb; have ae := am (nl hg (rk a9)); have ay := ns ae; replace a9 := kk a9 hb; clear hb hbox hg)))
(try simp only [Act.put, List.setIfInBounds_toArray, List.set_cons_zero, List.set_cons_succ])
go_cut [19] (fun bB wc => ∃ (kq : Nat) (aB : Bool), bB = .bool aB ∧ Aside0 (laws_likeGrid.j0 kq aB af aa ag ac = some r) ∧ Aside0 (kq ≤ k) ∧ Aside0 (wc.heap[az]? = some (.cells #[.int .i64 af, (.slice ao aa.length aq)] 58 (0, 0))) ∧ Aside0 (wc.heap[aA]? = some (.cells #[.int .i64 ag, (.slice ap ac.length au)] 58 (0, 0))) ∧ Aside0 (Below w.heap.size w wc))
case first => (
have H := b4.out
clear b4
refine em_ (p := af = ag) (fun c6 => ?br) (fun c6 => ?bq)
case' br => (
rw [if_pos c6] at H
have aC : (af == ag) = true := beq_iff_eq.mpr c6
have aP : (af != ag) = false := bne_eq_false_iff_eq.mpr c6
clear c6
(first | rw [aC] | rw [aP] | (simp only [i64_w, i32_w]; rw [aC]) | skip)
have H' := am H
clear H
have bf := trivial
)
case' bq => (
rw [if_neg c6] at H
have aC : (af == ag) = false := beq_eq_false_iff_ne.mpr c6
have aP : (af != ag) = true := bne_iff_ne.mpr c6
(first | rw [aC] | rw [aP] | (simp only [i64_w, i32_w]; rw [aC]) | skip)
have H' := am H
clear H
have bg := trivial
)
all_goals (
have bO := nN ae
have bP := z2 a9
have bQ := z2 ah
go_wp2
repeat (go_quiet (fail); try go_wp2)
go_meet
first
| (
have q_ := bf
case rel => exact ⟨_, (((aa.length : Int) != (ac.length : Int))), sd, H', ⟨by first | omega | exact Nat.le_refl _⟩, ⟨rk a9⟩, ⟨rk ah⟩, ⟨rb HB⟩⟩
)
| (
have q_ := bg
case rel => exact ⟨_, (true), sd, H', ⟨by first | omega | exact Nat.le_refl _⟩, ⟨rk a9⟩, ⟨rk ah⟩, ⟨rb HB⟩⟩
)
)
)
case rest => (
clear b4
obtain ⟨kq, aB, rfl, HA, b8, a9, ah, HB⟩ := hcut
cases kq with
| zero => exact absurd HA.out (by simp [laws_likeGrid.j0])
| succ ba => (
have H := HA.out
clear HA
simp only [laws_likeGrid.j0] at H
by_cases aL : aB = true
·(
subst aL
have H1 : (some false) = some r := by rw [if_pos rfl] at H; exact H
clear H
have H := H1
clear H1
obtain rfl := Option.some.inj H
go_wp2
repeat (go_quiet (fail); try go_wp2)
go_ret
exact ⟨ew, rb HB⟩
)
·(
replace aL := Bool.eq_false_iff.mpr aL
subst aL
rw [if_neg (show ¬ (false = true) by decide)] at H
have H' := am H
clear H
go_wp2
repeat (go_quiet (fail); try go_wp2)
go_loopg [5] ba (fun kq v5 w' => ∃ (a8 : Int), v5 = .int .i64 a8 ∧ Aside0 (laws_likeGrid.l0 kq a8 af aa ag ac = some r) ∧ Aside0 (kq ≤ ba) ∧ Aside0 (w'.heap[az]? = some (.cells #[.int .i64 af, (.slice ao aa.length aq)] 58 (0, 0))) ∧ Aside0 (w'.heap[aA]? = some (.cells #[.int .i64 ag, (.slice ap ac.length au)] 58 (0, 0))) ∧ Aside0 (Below w.heap.size w w'))
case atStart => exact ⟨(0), sd, H', ⟨Nat.le_refl _⟩, ⟨rk a9⟩, ⟨rk ah⟩, ⟨rb HB⟩⟩
case round => (
clear H'
try clear aL
obtain ⟨a8, rfl, HA, b9, a9, ah, HB⟩ := hrel
cases gk with
| zero => exact absurd HA.out (by simp [laws_likeGrid.l0])
| succ k2 => (
have H := HA.out
clear HA
simp only [laws_likeGrid.l0] at H
by_cases aE : a8 < (aa.length : Int)
·(
rw [if_pos aE] at H
have b7 : decide (a8 < (aa.length : Int)) = true := decide_eq_true aE
clear aE
refine em_ (p := 0 ≤ a8) (fun aM => ?bA) (fun aM => ?bz)
case' bA => (
rw [if_pos aM] at H
have bG : decide (0 ≤ a8) = true := decide_eq_true aM
clear aM
refine em_ (p := a8 < (ac.length : Int)) (fun aN => ?bw) (fun aN => ?bv)
case' bw => (
rw [if_pos aN] at H
have bH : decide (a8 < (ac.length : Int)) = true := decide_eq_true aN
clear aN
obtain ⟨bj, aD, H⟩ := bd H
(try dsimp only at H)
refine em_ (p := bj = true) (fun aO => ?bu) (fun aO => ?bt)
case' bu => (
subst aO
rw [if_pos rfl] at H
have H' := am H
clear H
have bh := trivial
)
case' bt => (
replace aO := Bool.eq_false_iff.mpr aO
subst aO
have H1 : (some false) = some r := by rw [if_neg (show ¬ (false = true) by decide)] at H; exact H
clear H
have H := H1
clear H1
obtain rfl := Option.some.inj H
have bi := trivial
)
)
case bv => (
rw [if_neg aN] at H
exact absurd H (by simp)
)
)
case bz => (
rw [if_neg aM] at H
exact absurd H (by simp)
)
all_goals (
have bJ := nN ae
have bL := z2 a9
have aQ : 0 ≤ (a8 : Int) := dt_
have aS : a8 < (aa.length : Int) := dt_
obtain ⟨bE, bl, bo, bb, aJ, aH, aF⟩ := at_L5 b5.out a8 aQ aS
cases bb
replace aJ := mv HB.out aJ
have ak := am aF
have ai := am aH
clear aF aH
replace aQ := eq_true aQ
replace aS := eq_true aS
have bM := z2 ah
have aR : 0 ≤ (a8 : Int) := dt_
have aT : a8 < (ac.length : Int) := dt_
obtain ⟨bF, bn, bp, bc, aK, aI, aG⟩ := at_L5 b6.out a8 aR aT
cases bc
replace aK := mv HB.out aK
have al := am aG
have aj := am aI
clear aG aI
replace aR := eq_true aR
replace aT := eq_true aT
go_wp2_with (first | (go_at_call 86; (with_reducible refine (laws_likeRow.calls k2 _ _ (rd_L5 aa a8) _ _ (rd_L5 ac a8) false _ ?side1 ?side2 ?side3 ?side4 aD.out).mono ?_); (case side1 => exact rc ((Kd.C_below ak.out HB.out))); (case side2 => exact ai.out); (case side3 => exact rc ((Kd.C_below al.out HB.out))); (case side4 => exact aj.out); rintro e w' ⟨rfl, ⟨nd, rfl⟩⟩; (try first | exact ⟨rfl, _, World.drewN_drewN _ _ _⟩ | exact ⟨rfl, _, Eq.trans (World.drewN_drewN _ _ _) (congrArg (World.drewN _) (Nat.add_assoc _ _ _))⟩)) | (go_at_call 86; (with_reducible refine (laws_likeRow.calls k2 _ _ (rd_L5 aa a8) _ _ (rd_L5 ac a8) true _ ?side1 ?side2 ?side3 ?side4 aD.out).mono ?_); (case side1 => exact rc ((Kd.C_below ak.out HB.out))); (case side2 => exact ai.out); (case side3 => exact rc ((Kd.C_below al.out HB.out))); (case side4 => exact aj.out); rintro e w' ⟨rfl, ⟨nd, rfl⟩⟩; (try first | exact ⟨rfl, _, World.drewN_drewN _ _ _⟩ | exact ⟨rfl, _, Eq.trans (World.drewN_drewN _ _ _) (congrArg (World.drewN _) (Nat.add_assoc _ _ _))⟩)))
first
| (
have q_ := bh
repeat (go_quiet (first | (go_at_call 86; (with_reducible refine (laws_likeRow.calls k2 _ _ (rd_L5 aa a8) _ _ (rd_L5 ac a8) true _ ?side1 ?side2 ?side3 ?side4 aD.out).mono ?_); (case side1 => exact rc ((Kd.C_below ak.out HB.out))); (case side2 => exact ai.out); (case side3 => exact rc ((Kd.C_below al.out HB.out))); (case side4 => exact aj.out); rintro e w' ⟨rfl, ⟨nd, rfl⟩⟩; (try first | exact ⟨rfl, _, World.drewN_drewN _ _ _⟩ | exact ⟨rfl, _, Eq.trans (World.drewN_drewN _ _ _) (congrArg (World.drewN _) (Nat.add_assoc _ _ _))⟩))); try go_wp2_with (first | (go_at_call 86; (with_reducible refine (laws_likeRow.calls k2 _ _ (rd_L5 aa a8) _ _ (rd_L5 ac a8) true _ ?side1 ?side2 ?side3 ?side4 aD.out).mono ?_); (case side1 => exact rc ((Kd.C_below ak.out HB.out))); (case side2 => exact ai.out); (case side3 => exact rc ((Kd.C_below al.out HB.out))); (case side4 => exact aj.out); rintro e w' ⟨rfl, ⟨nd, rfl⟩⟩; (try first | exact ⟨rfl, _, World.drewN_drewN _ _ _⟩ | exact ⟨rfl, _, Eq.trans (World.drewN_drewN _ _ _) (congrArg (World.drewN _) (Nat.add_assoc _ _ _))⟩))))
go_roundg k2
case measure => have := b8.out; have := b9.out; omega
case rel => exact ⟨(wrap64 (a8 + 1)), sd, H', ⟨by have := b8.out; have := b9.out; omega⟩, ⟨rk a9⟩, ⟨rk ah⟩, ⟨rb HB⟩⟩
)
| (
have q_ := bi
repeat (go_quiet (first | (go_at_call 86; (with_reducible refine (laws_likeRow.calls k2 _ _ (rd_L5 aa a8) _ _ (rd_L5 ac a8) false _ ?side1 ?side2 ?side3 ?side4 aD.out).mono ?_); (case side1 => exact rc ((Kd.C_below ak.out HB.out))); (case side2 => exact ai.out); (case side3 => exact rc ((Kd.C_below al.out HB.out))); (case side4 => exact aj.out); rintro e w' ⟨rfl, ⟨nd, rfl⟩⟩; (try first | exact ⟨rfl, _, World.drewN_drewN _ _ _⟩ | exact ⟨rfl, _, Eq.trans (World.drewN_drewN _ _ _) (congrArg (World.drewN _) (Nat.add_assoc _ _ _))⟩))); try go_wp2_with (first | (go_at_call 86; (with_reducible refine (laws_likeRow.calls k2 _ _ (rd_L5 aa a8) _ _ (rd_L5 ac a8) false _ ?side1 ?side2 ?side3 ?side4 aD.out).mono ?_); (case side1 => exact rc ((Kd.C_below ak.out HB.out))); (case side2 => exact ai.out); (case side3 => exact rc ((Kd.C_below al.out HB.out))); (case side4 => exact aj.out); rintro e w' ⟨rfl, ⟨nd, rfl⟩⟩; (try first | exact ⟨rfl, _, World.drewN_drewN _ _ _⟩ | exact ⟨rfl, _, Eq.trans (World.drewN_drewN _ _ _) (congrArg (World.drewN _) (Nat.add_assoc _ _ _))⟩))))
go_ret
exact ⟨ew, rb HB⟩
)
)
)
·(
rw [if_neg aE] at H
have b7 : decide (a8 < (aa.length : Int)) = false := decide_eq_false aE
clear aE
obtain rfl := Option.some.inj H
have bK := nN ae
have bN := z2 a9
go_wp2
repeat (go_quiet (fail); try go_wp2)
go_ret
exact ⟨ew, rb HB⟩
)
)
)
)
)
)
)

end Go.Proofs.Ytalopdcephohgaa.RD
