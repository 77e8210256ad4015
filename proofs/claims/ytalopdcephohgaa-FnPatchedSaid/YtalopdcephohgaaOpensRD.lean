/- What an argument reads as, handed on in the printed kinds' words: a datum that is read at a type is read by the kind that fits the type. No condition. -/
import Derived.Test.YtalopdcephohgaaYRDWords
import Derived.Test.YtalopdcephohgaaYRDLast
import Derived.ChangeArms
import Derived.Deep.Slices
namespace Go.Proofs.Ytalopdcephohgaa.Opens
open Go.RowKit Go.ChangeShapes Go.WideShapes Go.Proofs.YtalopdcephohgaaW.PrintWords Go.Proofs.YtalopdcephohgaaW.PrintLast
set_option linter.unusedVariables false
variable {H : Type} {enc : TypeId × Value → H} {P : Program} {w : World}

/-- The type t is read by the kind d; what is read is good. -/
def Fit {α : Type} (enc : TypeId × Value → H) (P : Program) (w : World) (t : TypeId) (d : Kd α) (ok : α → Prop) : Prop :=
  P.cellsOf t = d.sz ∧ ∀ (fuel : Nat) (cs : List Value) (x : DataW H × List MemPlace), DataW.trod enc P w 0 (fun _ => true) true fuel t cs = some x → ∃ a, d.K w a cs ∧ ok a

theorem fit_int {t : TypeId} {k : IntKind} (hu : P.underlying t = some (.int k)) (hc : P.cellsOf t = 1) : Fit enc P w t (Kd.int k) (fun a => (Lit.int k a).wf = true) := by
  refine ⟨hc, fun fuel cs x h => ?_⟩
  obtain ⟨n, rfl, _, hw⟩ := DataW.trod_int hu h
  exact ⟨n, rfl, hw⟩
theorem fit_bool {t : TypeId} (hu : P.underlying t = some .bool) (hc : P.cellsOf t = 1) : Fit enc P w t Kd.bool (fun _ => True) := by
  refine ⟨hc, fun fuel cs x h => ?_⟩
  obtain ⟨b, rfl, _⟩ := DataW.trod_bool hu h
  exact ⟨b, rfl, trivial⟩
theorem fit_string {t : TypeId} (hu : P.underlying t = some .string) (hc : P.cellsOf t = 1) : Fit enc P w t Kd.string (fun a => a.size ≤ maxLen) := by
  refine ⟨hc, fun fuel cs x h => ?_⟩
  obtain ⟨s, rfl, _, hs⟩ := DataW.trod_string hu h
  exact ⟨s, rfl, hs⟩
theorem choose_list {α : Type} {Q : Nat → α → Prop} : ∀ n : Nat, (∀ i, i < n → ∃ a, Q i a) → ∃ l : List α, l.length = n ∧ ∀ i a, l[i]? = some a → Q i a
  | 0, _ => ⟨[], rfl, fun i a h => by simp at h⟩
  | n + 1, h => by
    obtain ⟨l, hl, hq⟩ := choose_list n (fun i hi => h i (by omega))
    obtain ⟨a, ha⟩ := h n (by omega)
    refine ⟨l ++ [a], by simp [hl], fun i b hb => ?_⟩
    by_cases hi : i < l.length
    · rw [List.getElem?_append_left hi] at hb; exact hq i b hb
    · rw [List.getElem?_append_right (by omega)] at hb
      have : i = n := by
        by_cases h0 : i - l.length = 0
        · omega
        · rw [List.getElem?_eq_none (by simp; omega)] at hb; cases hb
      subst this
      rw [show i - l.length = 0 by omega] at hb
      simp at hb
      exact hb ▸ ha
theorem fit_slice {α : Type} {t e : TypeId} {d : Kd α} {ok : α → Prop} (hu : P.underlying t = some (.slice e)) (hc : P.cellsOf t = 1) (hd : Fit enc P w e d ok) :
    Fit enc P w t (Kd.slice e d) (fun l => l.length ≤ maxLen ∧ ∀ a ∈ l, ok a) := by
  refine ⟨hc, fun fuel cs x h => ?_⟩
  rcases DataW.trod_slice hu h with ⟨rfl, _⟩ | ⟨a, len, cap, elems, rest, n, rfl, rfl, _, _, hl, hm, hn, hi, _⟩
  · exact ⟨[], ⟨none, 0, rfl, Nat.le_refl _, rfl, Nat.zero_le _, fun h => absurd h (by simp)⟩, by simp [maxLen], by simp⟩
  · have hex : ∀ i, i < len → ∃ p : α, ok p ∧ ∃ c, c.length = d.sz ∧ d.K w p c ∧ ∀ (i' : Nat) (u : Value), c[i']? = some u → w.cell? ((a.add (i * d.sz)).add i') = some u := by
      intro i hlt
      have h1 := hi i hlt
      have h2 : elems[i]? = some (elems[i]'(by omega)) := List.getElem?_eq_getElem (by omega)
      rw [h2, Option.bind_eq_some_iff] at h1
      obtain ⟨cs', hcs, ht⟩ := h1
      obtain ⟨p, hp, hok⟩ := hd.2 _ _ _ ht
      obtain ⟨_, hcl, hat⟩ := World.cells?_some hcs
      refine ⟨p, hok, cs', by rw [hcl, hd.1], hp, fun i' u hu' => ?_⟩
      have hlt' : i' < cs'.length := (List.getElem?_eq_some_iff.1 hu').1
      have := hat i' (by omega)
      rw [hd.1] at this
      rw [this, ← hu']
    obtain ⟨l, hll, hq⟩ := choose_list (Q := fun i p => ok p ∧ ∃ c, c.length = d.sz ∧ d.K w p c ∧ ∀ (i' : Nat) (u : Value), c[i']? = some u → w.cell? ((a.add (i * d.sz)).add i') = some u) len hex
    refine ⟨l, ⟨some a, cap, by rw [hll], by omega, rfl, by simp only [maxLen] at hm ⊢; omega, fun _ => ⟨a, rfl, fun j p hp => ?_⟩⟩, by omega, fun p hp => ?_⟩
    · obtain ⟨_, c, h1, h2, h3⟩ := hq j p hp
      exact ⟨c, h1, h2, fun i u hu => by rw [← Go.Deep.add_add]; exact h3 i u hu⟩
    · obtain ⟨j, hj, rfl⟩ := List.getElem_of_mem hp
      exact (hq j _ (List.getElem?_eq_getElem hj)).1
theorem fit_iso {α β : Type} {t : TypeId} {d : Kd α} {ok : α → Prop} (f : β → α) (g : α → β) (hfg : ∀ a, f (g a) = a) (hd : Fit enc P w t d ok) : Fit enc P w t (Kd.iso d f) (fun b => ok (f b)) := by
  refine ⟨hd.1, fun fuel cs x h => ?_⟩
  obtain ⟨a, ha, hok⟩ := hd.2 fuel cs x h
  exact ⟨g a, by show d.K w (f (g a)) cs; rw [hfg]; exact ha, by show ok (f (g a)); rw [hfg]; exact hok⟩
/-- Fields in line, from the offset off on. -/
def FitS {α : Type} (enc : TypeId × Value → H) (P : Program) (w : World) (fs : List Field) (off : Nat) (d : Kd α) (ok : α → Prop) : Prop :=
  ∀ (n : Nat) (cs : List Value), cs.length = off + d.sz → (∀ f, f ∈ fs → ∃ x, DataW.trod enc P w 0 (fun _ => true) true n f.type ((cs.drop f.offset).take (P.cellsOf f.type)) = some x) → ∃ a, d.K w a (cs.drop off) ∧ ok a
theorem fits_one {α : Type} {f : Field} {off : Nat} {d : Kd α} {ok : α → Prop} (ho : f.offset = off) (hd : Fit enc P w f.type d ok) : FitS enc P w [f] off d ok := by
  intro n cs hl h
  obtain ⟨x, hx⟩ := h f (List.mem_singleton.2 rfl)
  rw [ho, hd.1, List.take_of_length_le (by rw [List.length_drop]; omega)] at hx
  exact hd.2 n _ x hx
theorem fits_cons {α β : Type} {f : Field} {fs : List Field} {off : Nat} {d : Kd α} {d' : Kd β} {ok : α → Prop} {ok' : β → Prop} (ho : f.offset = off) (hd : Fit enc P w f.type d ok) (hr : FitS enc P w fs (off + d.sz) d' ok') :
    FitS enc P w (f :: fs) off (Kd.pair d d') (fun a => ok a.1 ∧ ok' a.2) := by
  intro n cs hl h
  have hl' : cs.length = off + (d.sz + d'.sz) := hl
  obtain ⟨x, hx⟩ := h f (List.mem_cons_self ..)
  rw [ho, hd.1] at hx
  obtain ⟨a, ha, hoa⟩ := hd.2 n _ x hx
  obtain ⟨b, hb, hob⟩ := hr n cs (by omega) (fun g hg => h g (List.mem_cons_of_mem _ hg))
  refine ⟨(a, b), ⟨_, _, ?_, ha, hb⟩, hoa, hob⟩
  rw [← List.drop_drop, List.take_append_drop]
theorem fit_struct {α : Type} {t : TypeId} {fs : Array Field} {d : Kd α} {ok : α → Prop} (hu : P.underlying t = some (.struct fs)) (hc : P.cellsOf t = d.sz) (hd : FitS enc P w fs.toList 0 d ok) : Fit enc P w t d ok := by
  refine ⟨hc, fun fuel cs x h => ?_⟩
  obtain ⟨xs, n, _, _, hl, hx, hi⟩ := DataW.trod_struct hu h
  obtain ⟨a, ha, hok⟩ := hd n cs (by omega) (fun f hf => by
    obtain ⟨i, hi', rfl⟩ := List.getElem_of_mem hf
    have hs : i < fs.size := by simpa using hi'
    have := hi i (fs.toList[i]) (by simp [hs])
    exact ⟨xs[i]'(by omega), by rw [this]; exact List.getElem?_eq_getElem (by omega)⟩)
  exact ⟨a, by simpa using ha, hok⟩
end Go.Proofs.Ytalopdcephohgaa.Opens
