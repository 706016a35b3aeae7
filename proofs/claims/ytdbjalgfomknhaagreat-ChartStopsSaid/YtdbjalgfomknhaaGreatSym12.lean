/- A function of data whose result is no reference: rows of one's own may be lent to it. -/
import Derived.Test.YtdbjalgfomknhaaGreatSym11
set_option linter.unusedVariables false
set_option linter.unusedSimpArgs false
namespace Go.Sym
variable {P : Program} {B B' : Gu} {ι ι' : Nat -> Pl} {H H' : Heap} {D : Nat -> Prop} {w w' : World}
def BEV : AVal -> Bool
  | .d (.v _) => true
  | .tup cs => cs.all λ c => match c with
    | .d (.v _) => true
    | _ => false
  | _ => false
theorem BJM {D' : Nat -> Prop} {x : Value} {y : Value} (h : VRel B ι D (.d (.v x)) y) : VRel B' ι' D' (.d (.v x)) y := by
  cases h with
  | d h => cases h; exact .d (.v _)
theorem BJD {D' : Nat -> Prop} {a : AVal} {y : Value} (hf : BEV a = true) (h : VRel B ι D a y) : VRel B' ι' D' a y := by
  unfold BEV at hf
  split at hf
  · exact BJM h
  · rename_i cs
    cases h with
    | tup hl hh =>
      refine .tup hl λ j x y hx hy => ?_
      have := List.all_eq_true.1 hf x (List.mem_of_getElem? hx)
      split at this
      · exact BJM (hh j _ y hx hy)
      · cases this
  · cases hf
theorem FnT.lend {g : FuncId} {as xs : List AVal} {L : List (Nat × AObj)} {val : AVal} {fz : List Nat} (h : FnT P g as (AB []) val []) (hv : BEV val = true)
    (ha : frL (RY (AB L) fz) xs = as) (hok : okL (λ _ => false) as = true) (hc : EM (frCL (RY (AB L) fz) xs)) (keep : List (Nat × HCell)) (hk : Yq (AB L) keep) : FnT P g xs (AB L) val keep := by
  refine ⟨h.1, λ B ι w vs hvs hH => ?_⟩
  obtain ⟨B', hm, hF⟩ := XH fz hH
  have hargs := Cr hF xs vs hc hvs.2
  have hH0 : HRel B' ι (AB []) w := ⟨λ i o ho => by simp [AB, MF] at ho, λ i j o o' ho => by simp [AB, MF] at ho, λ i o ho => by simp [AB, MF] at ho, hm.heap.imm⟩
  refine Calls.mono (h.2 B' ι w vs ⟨by rw [hvs.1, <- ha, Ol], λ j x y hx hy => ?_⟩ hH0) λ e w' hh => ?_
  · rw [<- ha] at hx hok
    exact VRel.keep (p := λ _ => false) (λ i hi => by cases hi) _ _ (AOY hok hx) (hargs j x y hx hy)
  · obtain ⟨v, H', rfl, _, B2, ι2, m, hr⟩ := hh
    have fr : ∀ b, b < w.heap.size -> w'.heap[b]? = w.heap[b]? := λ b hb => m.frame b hb λ i o ho => by simp [AB, MF] at ho
    have lt : ∀ {b : Nat} {x}, w.heap[b]? = some x -> b < w.heap.size := λ {b x} hx => by
      obtain ⟨h1, _⟩ := Array.getElem?_eq_some_iff.1 hx; exact h1
    refine ⟨v, AB L, rfl, hk, B, ι, ⟨λ _ _ h => h, λ _ _ h => .inl h, λ _ h => ⟨h, rfl⟩, ⟨λ i o ho => ?_, hH.inj, hH.sep, λ b c hb => ?_⟩, λ i o ho => .inl ⟨i, o, ho, rfl⟩, λ b hb _ => fr b hb, m.size, m.calm⟩, BJD hv hr⟩
    · have ho' := hH.obj i o ho
      have : (ι i).b < w.heap.size := by
        cases hq : w.heap[(ι i).b]? with
        | none => rw [hq] at ho'; cases ho'
        | some x => exact lt hq
      rw [fr _ this]; exact ho'
    · obtain ⟨e, r, hq⟩ := hH.imm b c hb
      exact ⟨e, r, by rw [fr _ (lt hq)]; exact hq⟩
end Go.Sym
