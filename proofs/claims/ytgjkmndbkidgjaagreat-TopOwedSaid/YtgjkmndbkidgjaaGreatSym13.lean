/- Functions of data: their contracts as specs. -/
import Derived.Test.YtgjkmndbkidgjaaGreatSym12
set_option linter.unusedVariables false
set_option linter.unusedSimpArgs false
namespace Go.Sym
variable {P : Program} {B B' : HN} {ι ι' : Nat -> Pl} {H H' : Heap} {D : Nat -> Prop} {w w' : World}
theorem FnT.weak {g : FuncId} {as xs : List AVal} {L : List (Nat × AObj)} {val : AVal} {keep : List (Nat × HCell)} (h : FnT P g as (AK L) val keep) (hs : LO (λ i => i) (λ i => (DF L i).isSome) as xs) : FnT P g xs (AK L) val keep := by
  refine ⟨h.1, λ B ι w vs ha hH => h.2 B ι w vs ⟨by rw [ha.1, HG hs], λ j x y hx hy => ?_⟩ hH⟩
  obtain ⟨x', hx', hs'⟩ := IL hs hx
  exact WZ (ι := ι) (ρ := λ i => i) (D' := (AK L).dom) (λ i hi => by
    unfold Heap.dom AK
    obtain ⟨o, ho⟩ := Option.isSome_iff_exists.1 hi
    rw [ho]; simp) _ _ _ hs' (ha.2 j _ y hx' hy)
mutual
def AZT (H : Heap) : AVal -> List Nat
  | .own id _ _ _ => bif pV (H id) then [id] else []
  | .agg cs => JH H cs
  | .tup cs => JH H cs
  | _ => []
def JH (H : Heap) : List AVal -> List Nat
  | [] => []
  | a :: r => AZT H a ++ JH H r
end
def Fb : List Nat -> List Nat
  | [] => []
  | a :: r => bif r.contains a then Fb r else a :: Fb r
def uY (f : List AVal -> Option (AVal × List Prop)) : Spec := λ xs H _ =>
  if nodup (Fb (JH H xs)) && (Fb (JH H xs)).all (λ i => pV (H i)) && wX (λ _ => false) (frL (EM H (Fb (JH H xs))) xs) then
    match f (frL (EM H (Fb (JH H xs))) xs) with
    | some (v, p) => if LP (λ _ => false) v then some ⟨Fb (JH H xs), v, (Fb (JH H xs)).map λ i => (i, .dead), tD (EM H (Fb (JH H xs))) xs ++ p⟩ else none
    | none => none
  else none
mutual
theorem Ze (ρ : Nat -> Nat) : ∀ a : AVal, LP (λ _ => false) a = true -> PG ρ a = a
  | .d _, _ => rfl
  | .agg cs, h => by simp only [PG]; rw [SI ρ cs (by simpa only [LP] using h)]
  | .tup cs, h => by simp only [PG]; rw [SI ρ cs (by simpa only [LP] using h)]
  | .bptr _ _, h => by simp [LP] at h
  | .rptr _ _ _ _, h => by simp [LP] at h
  | .own _ _ _ _, h => by simp [LP] at h
  | .fn f x y, h => by
    simp only [LP, Bool.and_eq_true] at h
    simp only [PG]; rw [SI ρ x h.1, SI ρ y h.2]
  | .mref _, h => by simp [LP] at h
  | .any, _ => rfl
  | .opt g a, h => by simp only [PG]; rw [Ze ρ a (by simpa only [LP] using h)]
theorem SI (ρ : Nat -> Nat) : ∀ l : List AVal, wX (λ _ => false) l = true -> Gw ρ l = l
  | [], _ => rfl
  | a :: l, h => by
    simp only [wX, Bool.and_eq_true] at h
    simp only [Gw]; rw [Ze ρ a h.1, SI ρ l h.2]
end
theorem ABG {g : FuncId} {f : List AVal -> Option (AVal × List Prop)} (h : ∀ xs v p, f xs = some (v, p) -> BG p -> FnT P g xs (AK []) v []) : AR P g (uY f) := by
  intro xs H r x hx hp
  unfold uY at hx
  generalize hfz : Fb (JH H xs) = fz at hx
  split at hx
  case isFalse => cases hx
  rename_i hok
  simp only [Bool.and_eq_true, List.all_eq_true] at hok
  obtain ⟨⟨ok1, ok2⟩, ok3⟩ := hok
  have hnd := GG ok1
  split at hx
  case h_2 => cases hx
  rename_i v p hf
  split at hx
  case isFalse => cases hx
  rename_i hv
  cases hx
  obtain ⟨hp1, hp2⟩ := BD hp
  have hfn := h _ _ _ hf hp2
  intro H' hcells hfresh
  have hfz : ∀ i ∈ fz, H' i = H i := λ i hi => hcells (i, H i) (List.mem_map.2 ⟨i, hi, rfl⟩)
  refine ⟨hfn.1, λ B ι w vs ha hH => ?_⟩
  obtain ⟨B', hk, hF⟩ := FU fz hH
  rw [fR hfz] at hF
  have hargs := HI hF xs vs hp1 ha.2
  have hcall := FnT.at hfn (λ i => i) r (by simp only [fZ, Bool.and_eq_true]; exact ⟨⟨⟨⟨⟨by simpa [DF] using ok3, rfl⟩, rfl⟩, rfl⟩, by simpa [HH] using hv⟩, rfl⟩) (CF H' fz) (λ i h3 h4 => LG fz (hfresh i h3 h4)) hk.heap (vs := vs)
    ⟨by rw [ha.1, LC], λ j x y hx hy => VRel.keep (p := λ _ => false) (λ i hi => by cases hi) _ _ (C8 ok3 hx) (hargs j x y hx hy)⟩
    (λ i o ho => by simp [DF] at ho)
  refine Calls.mono hcall λ e w' hh => ?_
  obtain ⟨y, rfl, B2, ι2, h3, h4⟩ := hh
  rw [Rw fz H' hnd λ i hi => by rw [hfz i hi]; exact ok2 i hi]
  rw [Ze _ _ hv] at h4
  exact ⟨y, rfl, B2, ι2, hk.trans h3, h4⟩
end Go.Sym

namespace Go.Sym
variable {P : Program} {B B' : HN} {ι ι' : Nat -> Pl} {H H' : Heap} {w w' : World} {c : Ctx} {σ : AState} {Q : Exit -> AState -> Prop}
end Go.Sym

namespace Go.Sym
variable {P : Program} {B B' : HN} {ι ι' : Nat -> Pl} {H H' : Heap} {D : Nat -> Prop} {w w' : World}
def APC : AVal -> Bool
  | .d (.v _) => true
  | .tup cs => cs.all λ c => match c with
    | .d (.v _) => true
    | _ => false
  | _ => false
theorem AQD {D' : Nat -> Prop} {x : Value} {y : Value} (h : VRel B ι D (.d (.v x)) y) : VRel B' ι' D' (.d (.v x)) y := by
  cases h with
  | d h => cases h; exact .d (.v _)
theorem APZ {D' : Nat -> Prop} {a : AVal} {y : Value} (hf : APC a = true) (h : VRel B ι D a y) : VRel B' ι' D' a y := by
  unfold APC at hf
  split at hf
  · exact AQD h
  · rename_i cs
    cases h with
    | tup hl hh =>
      refine .tup hl λ j x y hx hy => ?_
      have := List.all_eq_true.1 hf x (List.mem_of_getElem? hx)
      split at this
      · exact AQD (hh j _ y hx hy)
      · cases this
  · cases hf
theorem FnT.lend {g : FuncId} {as xs : List AVal} {L : List (Nat × AObj)} {val : AVal} {fz : List Nat} (h : FnT P g as (AK []) val []) (hv : APC val = true)
    (ha : frL (EM (AK L) fz) xs = as) (hok : wX (λ _ => false) as = true) (hc : BG (tD (EM (AK L) fz) xs)) (keep : List (Nat × HCell)) (hk : PW (AK L) keep) : FnT P g xs (AK L) val keep := by
  refine ⟨h.1, λ B ι w vs hvs hH => ?_⟩
  obtain ⟨B', hm, hF⟩ := FU fz hH
  have hargs := HI hF xs vs hc hvs.2
  have hH0 : HRel B' ι (AK []) w := ⟨λ i o ho => by simp [AK, DF] at ho, λ i j o o' ho => by simp [AK, DF] at ho, λ i o ho => by simp [AK, DF] at ho, hm.heap.imm⟩
  refine Calls.mono (h.2 B' ι w vs ⟨by rw [hvs.1, <- ha, LC], λ j x y hx hy => ?_⟩ hH0) λ e w' hh => ?_
  · rw [<- ha] at hx hok
    exact VRel.keep (p := λ _ => false) (λ i hi => by cases hi) _ _ (C8 hok hx) (hargs j x y hx hy)
  · obtain ⟨v, H', rfl, _, B2, ι2, m, hr⟩ := hh
    have fr : ∀ b, b < w.heap.size -> w'.heap[b]? = w.heap[b]? := λ b hb => m.frame b hb λ i o ho => by simp [AK, DF] at ho
    have lt : ∀ {b : Nat} {x}, w.heap[b]? = some x -> b < w.heap.size := λ {b x} hx => by
      obtain ⟨h1, _⟩ := Array.getElem?_eq_some_iff.1 hx; exact h1
    refine ⟨v, AK L, rfl, hk, B, ι, ⟨λ _ _ h => h, λ _ _ h => .inl h, λ _ h => ⟨h, rfl⟩, ⟨λ i o ho => ?_, hH.inj, hH.sep, λ b c hb => ?_⟩, λ i o ho => .inl ⟨i, o, ho, rfl⟩, λ b hb _ => fr b hb, m.size, m.calm⟩, APZ hv hr⟩
    · have ho' := hH.obj i o ho
      have : (ι i).b < w.heap.size := by
        cases hq : w.heap[(ι i).b]? with
        | none => rw [hq] at ho'; cases ho'
        | some x => exact lt hq
      rw [fr _ this]; exact ho'
    · obtain ⟨e, r, hq⟩ := hH.imm b c hb
      exact ⟨e, r, by rw [fr _ (lt hq)]; exact hq⟩
end Go.Sym
