/- Contracts of Go functions that laws of this seat reach: each Lean function answers as its Go function does. No condition. Written by wip/tools/inj.py, over the kit's print. -/
import Derived.Test.YtalopdcephohgaaRDx0
import Derived.Test.YtalopdcephohgaaRDx24
import Derived.Test.YtalopdcephohgaaRDx30
namespace Go.Proofs.Ytalopdcephohgaa.RD
open Go.RowKit Go.Proofs.YtalopdcephohgaaW.PrintWords Go.Proofs.YtalopdcephohgaaW.PrintLast Go.Proofs.YtalopdcephohgaaW.PrintMore
attribute [local go_sem] max2_int min2_int max_two min_two max_three min_three max_four min_four   -- for this text's walks alone
set_option linter.unusedVariables false
set_option linter.unusedSimpArgs false

/-! ### spec_DrawDiff: function 44 -/
def spec_DrawDiff.f (k : Nat) (l0 : List Int) : Option (Int × (List (List (S98))) × Int × (List (List (S98)))) := (spec_l1New.f k l0).bind fun a9 => ((spec_l10DrawTwo.f k a9.1 a9.2.1 a9.2.2).bind fun a8 => (some (a8.1, a8.2.1, a8.2.2.1, a8.2.2.2.1)))
theorem spec_DrawDiff.mono : ∀ a0 k, LeO (spec_DrawDiff.f k a0) (spec_DrawDiff.f (k + 1) a0) := by
 intro a0 k
 unfold spec_DrawDiff.f
 repeat' first
   | (with_reducible exact spec_l10DrawTwo.mono _ _ _ _)
   | (with_reducible exact spec_l1New.mono _ _)
   | (with_reducible exact LeO.refl _)
   | (with_reducible exact LeO.none _)
   | (with_reducible refine LeO.ite ?_ ?_)
   | (with_reducible refine LeO.bind ?_ (fun _ => ?_))
set_option maxHeartbeats 8000000 in
set_option maxRecDepth 100000 in
theorem spec_DrawDiff.calls (k : Nat) (A0 : Option Addr) (c0 : Nat) (l0 : List Int) (r1 : Int) (r2 : List (List (S98))) (r3 : Int) (r4 : List (List (S98))) (w : World) (aG : Kd.C (Kd.int .u8) w A0 l0.length l0) (aD : l0.length ≤ c0) (h : spec_DrawDiff.f k l0 = some (r1, r2, r3, r4)) :
  Calls Try.prog 44 #[.slice A0 l0.length c0] w fun e w' => ∃ v1_ v3_ : Value, e = .returned (.tuple #[.agg #[.int .i64 r1, v1_], .agg #[.int .i64 r3, v3_]]) ∧ Kd.V (Kd.slice 98 k98) 99 w' w.heap.size (fun k_ => (w.heap.size ≤ k_)) v1_ r2 ∧ Kd.V (Kd.slice 98 k98) 99 w' w.heap.size (fun k_ => (w.heap.size ≤ k_)) v3_ r4 ∧ Below w.heap.size w w' := by
 (
have aT := Try.underlying58
have aQ := am aG
have aP := am aD
clear aG aD
have HB := am (Below.refl w.heap.size w)
have H := h
unfold spec_DrawDiff.f at H
clear h
obtain ⟨⟨al, ao, ap⟩, A2, H⟩ := bd H
(try dsimp only at H)
obtain ⟨⟨aq, au, av, ax, aN, aO⟩, A3, H⟩ := bd H
(try dsimp only at H)
simp only [Option.some.injEq, Prod.mk.injEq] at H
obtain ⟨rfl, rfl, rfl, rfl⟩ := H
go_enter Try.func44, Try.ntmps44
go_wp2_with (first | (refine bx 2 #[.int .i64 0, .slice none 0 0] 58 ?_; intro af hg w4 hbox hb; have a8 := am (hbox); have ay := am (gw hg (rb HB)); have aR := ay; replace HB := bs HB hb; clear hb hbox hg) | (refine bx 3 #[.int .i64 0, .slice none 0 0] 58 ?_; intro ag hg w5 hbox hb; have a9 := am (hbox); have az := am (gw hg (rb HB)); have aS := az; replace HB := bs HB hb; have aa := am (nl hg (rk a8)); have aA := ns aa; replace a8 := kk a8 hb; clear hb hbox hg) | ((with_reducible refine cg 49 rfl ?_); refine gl_ (some 6) Try.func49 #[.slice A0 l0.length c0] ?_; (with_reducible refine (spec_l1New.calls k _ _ l0 al ao ap w _ ?side1 ?side2 ?side3 A2.out).mono ?_); (case side1 => exact rb HB); (case side2 => exact aQ.out); (case side3 => exact aP.out); rintro e w6 ⟨g760, rfl, hi, hb, ac⟩; refine ⟨_, rfl, ?_⟩; replace HB := am (hb); have ae := am (hi); have aB := am (IsS118.ne_blk hi (blk_below (rk a8) ac) (by decide)); have ah := am (Ne.symm (IsS118.ne_blk hi (blk_below (rk a8) ac) (by decide))); replace a8 := am (blk_below (rk a8) ac); have aC := am (IsS118.ne_blk hi (blk_below (rk a9) ac) (by decide)); have ai := am (Ne.symm (IsS118.ne_blk hi (blk_below (rk a9) ac) (by decide))); replace a9 := am (blk_below (rk a9) ac); (try clear hb); (try clear ac); (try clear hk); (try clear hi)) | ((with_reducible refine cg 83 rfl ?_); refine gl_ (some 8) Try.func83 #[.pointer (some ⟨g760, 0, none⟩)] ?_; (with_reducible refine (spec_l10DrawTwo.calls k g760 al ao ap aq au av ax aN aO w _ ?side1 ?side2 A3.out).mono ?_); (case side1 => exact ri118 ae); (case side2 => exact rbi HB); rintro e w7 ⟨aV, aW, rfl, aE, aF, hi, hb, hk⟩; refine ⟨_, rfl, ?_⟩; have aj := am (Kd.V_lower (Kd.V_mono (ok' := fun k_ => (w.heap.size ≤ k_) ∧ k_ ≠ af ∧ k_ ≠ ag ∧ k_ ≠ g760) aE (fun k_ hk_ => ⟨(Nat.le_trans (below_size (rbi HB)) hk_), (Kd.freshB (rk a8) k_ hk_), (Kd.freshB (rk a9) k_ hk_), (IsS118.fresh (ri118 ae) k_ hk_)⟩)) (below_size (rbi HB))); have ak := am (Kd.V_lower (Kd.V_mono (ok' := fun k_ => (w.heap.size ≤ k_) ∧ k_ ≠ af ∧ k_ ≠ ag ∧ k_ ≠ g760) aF (fun k_ hk_ => ⟨(Nat.le_trans (below_size (rbi HB)) hk_), (Kd.freshB (rk a8) k_ hk_), (Kd.freshB (rk a9) k_ hk_), (IsS118.fresh (ri118 ae) k_ hk_)⟩)) (below_size (rbi HB))); replace a8 := kh a8 hk; replace a9 := kh a9 hk; replace HB := am (hb); replace ae := am (hi); (try clear hb); (try clear ac); (try clear hk); (try clear hi); (try clear aE); (try clear aF); have aZ := nN aa; have b4 := nN ah; have aX := z2 a8; obtain ⟨aH, aJ, aL⟩ := Kd.V_slice aj.out; subst aL; have aU := nN ai; have aY := z2 a9; obtain ⟨aI, aK, aM⟩ := Kd.V_slice ak.out; subst aM))
refine bodyPost_ret (results_cc rfl _ _ af ag 58 58 #[.int .i64 aq, .slice aH au.length aJ] #[.int .i64 av, .slice aI ax.length aK] (0, 0) (0, 0) _ _ rfl (rk a8) Try.underlying58 rfl (by kernel_rfl) rfl (rk a9) Try.underlying58 rfl (by kernel_rfl)) rfl ?_
exact ⟨_, _, ew, rV_ aj, rV_ ak, rbi HB⟩
)

end Go.Proofs.Ytalopdcephohgaa.RD
