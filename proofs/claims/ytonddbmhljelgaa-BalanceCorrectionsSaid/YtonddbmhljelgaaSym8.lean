/- Shapes at loops; freezing and forgetting behind a region. -/
import Derived.Test.YtonddbmhljelgaaSym7
set_option linter.unusedVariables false
set_option linter.unusedSimpArgs false
namespace Go.Sym
variable {P : Program} {B B' : Imm} {ι ι' : Nat → Pl} {H H' : Heap} {D D' : Nat → Prop} {w w' : World} {c : Ctx} {σ : AState} {Q : Exit → AState → Prop}
structure Shape where
  α : Type
  dflt : α
  T : α → ST
  inv : α → Prop
  meas : α → Nat
  first : List (Nat × Nat) := []
  again : List (Nat × Nat) := []
  ffz : List Nat := []
  afz : List Nat := []
  /-- what the annotations within are told, behind the measure -/
  tag : List Nat := []
def Shape.at1 (s : Shape) : List (Nat × Nat) × List Nat := (s.first, s.ffz)
def Shape.at2 (s : Shape) : List (Nat × Nat) × List Nat := (s.again, s.afz)
abbrev LoopAnn := List Shape
def loopTo (E : List Nat) (sel : Shape → List (Nat × Nat) × List Nat) (σ : AState) (K : (s : Shape) → s.α → Prop) : List Shape → Prop
  | [] => False
  | s :: l => if (condSt E (sel s).2 (sel s).1 (s.T s.dflt) σ).isSome then ∃ a, andKO (condSt E (sel s).2 (sel s).1 (s.T a) σ) (K s a) else loopTo E sel σ K l
theorem loopTo_spec {E : List Nat} {sel : Shape → List (Nat × Nat) × List Nat} {K : (s : Shape) → s.α → Prop} : ∀ {l : List Shape}, loopTo E sel σ K l → ∃ s ∈ l, ∃ a, propO (condSt E (sel s).2 (sel s).1 (s.T a) σ) ∧ K s a
  | [], h => h.elim
  | s :: l, h => by
    unfold loopTo at h
    split at h
    · obtain ⟨a, h⟩ := h
      obtain ⟨h1, h2⟩ := andKO_spec h
      exact ⟨s, by simp, a, h1, h2⟩
    · obtain ⟨s', h1, h2⟩ := loopTo_spec h
      exact ⟨s', by simp [h1], h2⟩
def allS (K : Shape → Prop) : List Shape → Prop
  | [] => True
  | [s] => K s
  | s :: l => K s ∧ allS K l
theorem allS_spec {K : Shape → Prop} : ∀ {l : List Shape}, allS K l → ∀ s ∈ l, K s
  | [], _, s, h => by cases h
  | [t], h, s, hs => by simp at hs; subst hs; exact h
  | t :: u :: l, h, s, hs => by
    rcases List.mem_cons.1 hs with rfl | hs
    · exact h.1
    · exact allS_spec (l := u :: l) h.2 s hs
def keyOf : Code → Nat
  | .region id _ _ => id
  | .seq a _ => keyOf a
  | .block _ b => keyOf b
  | .cond _ t _ => keyOf t
  | .loop b => keyOf b
  | .scope b => keyOf b
  | .rangeFunc _ _ a _ => keyOf a
  | _ => 0
def noGotoE (Q : Exit → AState → Prop) : Exit → AState → Prop
  | .goto _, _ => False
  | e, σ => Q e σ
mutual
def frV (F : Frz) : AVal → AVal
  | .own id k i n => match F id with
    | some (k2, _, get) => if Nat.beq k k2 then .d (.list k n (fun j => get (i + j)) false) else .any
    | none => .own id k i n
  | .agg cs => aggOf (frL F cs)
  | .tup cs => tupOf (frL F cs)
  | .fn f a b => .fn f (frL F a) (frL F b)
  | .opt g a => .opt g (frV F a)
  | a => a
def frL (F : Frz) : List AVal → List AVal
  | [] => []
  | a :: r => frV F a :: frL F r
end
mutual
def frC (F : Frz) : AVal → List Prop
  | .own id _ i n => match F id with
    | some (_, m, _) => [i + n ≤ m]
    | none => []
  | .agg cs => frCL F cs
  | .tup cs => frCL F cs
  | .fn _ a b => frCL F a ++ frCL F b
  | .opt _ a => frC F a
  | _ => []
def frCL (F : Frz) : List AVal → List Prop
  | [] => []
  | a :: r => frC F a ++ frCL F r
end
theorem frL_len (F : Frz) : ∀ l : List AVal, (frL F l).length = l.length
  | [] => rfl
  | a :: l => by simp [frL, frL_len F l]
theorem vEq_refl (x : Value) : vEq x x := by
  unfold vEq; split <;> simp_all
mutual
theorem dsub_refl : ∀ (x : DVal), dsub x x
  | .v x => by simp only [dsub]; exact vEq_refl x
  | .agg xs => by simp only [dsub]; exact dsubL_refl xs
  | .tup xs => by simp only [dsub]; exact dsubL_refl xs
  | .list k n g e => by simp only [dsub]; exact ⟨.inl trivial, trivial, id, fun i _ => dsub_refl (g i)⟩
  | .arr k n g => by simp only [dsub]; exact ⟨trivial, trivial, fun i _ => dsub_refl (g i)⟩
  | .eref x c => by simp only [dsub]; exact ⟨trivial, dsub_refl x⟩
theorem dsubL_refl : ∀ (l : List DVal), dsubL l l
  | [] => trivial
  | x :: l => ⟨dsub_refl x, dsubL_refl l⟩
end
mutual
theorem frV_sound {F : Frz} (hF : FrzOk B B' ι F) : ∀ (a : AVal) (v : Value), allP (frC F a) → VRel B ι D a v → VRel B' ι D (frV F a) v
  | .own id k i n, v, h, hv => by
    simp only [frC] at h
    simp only [frV]
    split
    · rename_i k2 m get hf
      simp only [hf] at h
      split
      · rename_i hk
        have := Nat.eq_of_beq_eq_true hk; subst this
        exact .d (frz_list hF hf rfl h (fun j _ => dsub_refl _) hv)
      · exact .any
    · exact hv.mono hF.1 fun i hi => ⟨hi, rfl⟩
  | .agg cs, v, h, hv => by
    simp only [frV]
    cases hv with
    | agg hl hr => exact aggOf_rel (by rw [frL_len]; exact hl) (frL_sound hF cs _ h hr)
  | .tup cs, v, h, hv => by
    simp only [frV]
    cases hv with
    | tup hl hr => exact tupOf_rel (by rw [frL_len]; exact hl) (frL_sound hF cs _ h hr)
  | .fn f a b, v, h, hv => by
    simp only [frV]
    simp only [frC] at h
    obtain ⟨h1, h2⟩ := allP_append h
    cases hv with
    | fn h3 h4 h5 h6 => exact .fn (by rw [frL_len]; exact h3) (by rw [frL_len]; exact h4) (frL_sound hF a _ h1 h5) (frL_sound hF b _ h2 h6)
  | .opt g a, v, h, hv => by
    simp only [frV]
    cases hv with
    | opt h1 h2 => exact .opt (fun hg => frV_sound hF a v h (h1 hg)) h2
  | .d x, v, _, hv => by simp only [frV]; exact hv.mono hF.1 fun i hi => ⟨hi, rfl⟩
  | .bptr i c, v, _, hv => by simp only [frV]; exact hv.mono hF.1 fun i hi => ⟨hi, rfl⟩
  | .rptr i k e c, v, _, hv => by simp only [frV]; exact hv.mono hF.1 fun i hi => ⟨hi, rfl⟩
  | .mref i, v, _, hv => by simp only [frV]; exact hv.mono hF.1 fun i hi => ⟨hi, rfl⟩
  | .any, v, _, _ => by simp only [frV]; exact .any
theorem frL_sound {F : Frz} (hF : FrzOk B B' ι F) : ∀ (l : List AVal) (ys : Array Value), allP (frCL F l) → (∀ (j : Nat) (x : AVal) (y : Value), l[j]? = some x → ys[j]? = some y → VRel B ι D x y) →
    ∀ (j : Nat) (x : AVal) (y : Value), (frL F l)[j]? = some x → ys[j]? = some y → VRel B' ι D x y
  | [], ys, _, _, j, x, y, hx, _ => by simp [frL] at hx
  | a :: l, ys, h, hr, j, x, y, hx, hy => by
    obtain ⟨h1, h2⟩ := allP_append (by simpa only [frCL] using h)
    cases j with
    | zero =>
      simp only [frL, List.getElem?_cons_zero, Option.some.injEq] at hx
      subst hx
      exact frV_sound hF a y h1 (hr 0 a y rfl hy)
    | succ j =>
      simp only [frL, List.getElem?_cons_succ] at hx
      exact frL_sound hF l (ys.extract 1 ys.size) h2 (fun i x y hx hy => hr (i + 1) x y (by simpa using hx) (by
        rw [Array.getElem?_extract] at hy
        split at hy
        · rw [Nat.add_comm]; exact hy
        · cases hy)) j x y hx (by
        have hlt := (Array.getElem?_eq_some_iff.1 hy).1
        rw [Array.getElem?_extract, if_pos (by omega), Nat.add_comm]; exact hy)
end
mutual
theorem VRel.keep {p : Nat → Bool} (hp : ∀ i, p i = true → D' i ∧ ι' i = ι i) : ∀ (a : AVal) (v : Value), okV p a = true → VRel B ι D a v → VRel B ι' D' a v
  | .d x, v, _, hv => .d hv.d_inv
  | .agg cs, v, h, hv => by
    cases hv with
    | agg hl hr => exact .agg hl fun j x y hx hy => VRel.keepL hp cs (by simpa only [okV] using h) j x y hx (hr j x y hx hy)
  | .tup cs, v, h, hv => by
    cases hv with
    | tup hl hr => exact .tup hl fun j x y hx hy => VRel.keepL hp cs (by simpa only [okV] using h) j x y hx (hr j x y hx hy)
  | .bptr i c, v, h, hv => by cases hv; rw [← (hp i (by simpa only [okV] using h)).2]; exact .bptr (hp i (by simpa only [okV] using h)).1
  | .rptr i k e c, v, h, hv => by cases hv; rw [← (hp i (by simpa only [okV] using h)).2]; exact .rptr (hp i (by simpa only [okV] using h)).1
  | .own i k e n, v, h, hv => by
    cases hv with
    | own _ h1 h2 => rw [← (hp i (by simpa only [okV] using h)).2] at h2 ⊢; exact .own (hp i (by simpa only [okV] using h)).1 h1 h2
  | .fn f a b, v, h, hv => by
    simp only [okV, Bool.and_eq_true] at h
    cases hv with
    | fn h1 h2 h3 h4 => exact .fn h1 h2 (fun j x y hx hy => VRel.keepL hp a h.1 j x y hx (h3 j x y hx hy)) fun j x y hx hy => VRel.keepL hp b h.2 j x y hx (h4 j x y hx hy)
  | .mref i, v, h, hv => by cases hv; rw [← (hp i (by simpa only [okV] using h)).2]; exact .mref (hp i (by simpa only [okV] using h)).1
  | .any, v, _, _ => .any
  | .opt g a, v, h, hv => by
    cases hv with
    | opt h1 h2 => exact .opt (fun hg => VRel.keep hp a v (by simpa only [okV] using h) (h1 hg)) h2
theorem VRel.keepL {p : Nat → Bool} (hp : ∀ i, p i = true → D' i ∧ ι' i = ι i) : ∀ (l : List AVal), okL p l = true → ∀ (j : Nat) (x : AVal) (v : Value), l[j]? = some x → VRel B ι D x v → VRel B ι' D' x v
  | [], _, j, x, v, hx, _ => by simp at hx
  | a :: l, h, 0, x, v, hx, hv => by simp at hx; subst hx; simp only [okL, Bool.and_eq_true] at h; exact VRel.keep hp a v h.1 hv
  | a :: l, h, j + 1, x, v, hx, hv => by simp only [okL, Bool.and_eq_true] at h; exact VRel.keepL hp l h.2 j x v (by simpa using hx) hv
end
structure Pack where
  sl : List Nat
  ids : List Nat
  fz : List Nat := []
def frCell (F : Frz) : HCell → HCell
  | .live (.box es) => .live (.box (frL F es))
  | x => x
def frCellC (F : Frz) : HCell → List Prop
  | .live (.box es) => frCL F es
  | _ => []
def okCell (p : Nat → Bool) : HCell → Bool
  | .live o => okO p o
  | .dead => true
  | .none => false
def packST (p : Pack) (σ : AState) : ST :=
  ⟨p.sl.map fun t => (t, frV (frzOf σ.H p.fz) (σ.sl t)), p.ids.map fun i => (i, frCell (frzOf σ.H p.fz) (killL σ.H p.fz i))⟩
def packC (p : Pack) (σ : AState) : List Prop := (p.sl.flatMap fun t => frC (frzOf σ.H p.fz) (σ.sl t)) ++ p.ids.flatMap fun i => frCellC (frzOf σ.H p.fz) (killL σ.H p.fz i)
def packOk (p : Pack) (E : List Nat) (s : ST) : Bool :=
  s.sl.all (fun x => okV (fun i => p.ids.contains i) x.2) && s.H.all (fun x => okCell (fun i => p.ids.contains i) x.2) && E.all (fun i => p.ids.contains i) && nodup p.ids
def packP (o : Option Pack) (E : List Nat) (σ : AState) (K : AState → Prop) : Prop := match o with
  | none => K σ
  | some p => if packOk p E (packST p σ) then andK (packC p σ) (K (packST p σ).st) else False
theorem allP_flatMap {α : Type} {f : α → List Prop} : ∀ {l : List α}, allP (l.flatMap f) → ∀ x ∈ l, allP (f x)
  | [], _, x, hx => by cases hx
  | a :: l, h, x, hx => by
    rw [List.flatMap_cons] at h
    obtain ⟨h1, h2⟩ := allP_append h
    rcases List.mem_cons.1 hx with rfl | hx
    · exact h1
    · exact allP_flatMap h2 x hx
theorem getS_map (f : Nat → AVal) : ∀ (l : List Nat) (t : Nat), getS (l.map fun t => (t, f t)) t = .any ∨ (t ∈ l ∧ getS (l.map fun t => (t, f t)) t = f t)
  | [], t => .inl rfl
  | a :: l, t => by
    simp only [List.map_cons, getS]
    split
    · rename_i h; subst h; exact .inr ⟨by simp, rfl⟩
    · rcases getS_map f l t with h | ⟨h1, h2⟩
      · exact .inl h
      · exact .inr ⟨by simp [h1], h2⟩
theorem getK_map (f : Nat → HCell) : ∀ (l : List Nat) (i : Nat), getK (l.map fun i => (i, f i)) i = if l.contains i then some (f i) else none
  | [], i => rfl
  | a :: l, i => by
    simp only [List.map_cons, getK, getK_map f l, List.contains_cons]
    by_cases h : i = a
    · subst h; simp
    · have : (i == a) = false := by simpa using h
      rw [if_neg h, this]; simp
theorem Moved.pack {B0 : Imm} {ι0 : Nat → Pl} {H0 : Heap} {w0 : World} {p : Pack} {E : List Nat} (hE : ∀ i, H0.dom i → i ∈ E) (hok : packOk p E (packST p σ) = true) (hc : allP (packC p σ)) (hm0 : Moved B0 ι0 H0 w0 B ι σ.H w) :
    ∃ B', Moved B0 ι0 H0 w0 B' ι (packST p σ).st.H w ∧ (∀ t v, VRel B ι σ.H.dom (σ.sl t) v → VRel B' ι (packST p σ).st.H.dom ((packST p σ).st.sl t) v) ∧ (∀ i o, (packST p σ).st.H i = .live o → ∃ o', σ.H i = .live o') ∧
      (∀ b c, B b = some c → B' b = some c) ∧ ∀ i ∈ E, (packST p σ).st.H.dom i := by
  simp only [packOk, Bool.and_eq_true, List.all_eq_true] at hok
  obtain ⟨⟨⟨o1, o2⟩, o3⟩, o4⟩ := hok
  obtain ⟨c1, c2⟩ := allP_append hc
  obtain ⟨B', hk, hF⟩ := killL_moved p.fz hm0.heap
  have hm := hm0.trans hk
  have hcell : ∀ i ∈ p.ids, okCell (fun i => p.ids.contains i) (frCell (frzOf σ.H p.fz) (killL σ.H p.fz i)) = true := fun i hi => o2 _ (List.mem_map.2 ⟨i, hi, rfl⟩)
  have hH : ∀ i, (packST p σ).st.H i = if p.ids.contains i then frCell (frzOf σ.H p.fz) (killL σ.H p.fz i) else .none := fun i => by
    show (getK _ i).getD .none = _
    rw [packST, getK_map]; split <;> rfl
  have hdom : ∀ i, p.ids.contains i = true → (packST p σ).st.H.dom i ∧ ι i = ι i := fun i hi => by
    refine ⟨?_, rfl⟩
    unfold Heap.dom
    rw [hH, if_pos hi]
    have := hcell i (by simpa using hi)
    intro he; rw [he] at this; cases this
  have live : ∀ i o, (packST p σ).st.H i = .live o → ∃ o', i ∈ p.ids ∧ killL σ.H p.fz i = .live o' ∧ frCell (frzOf σ.H p.fz) (.live o') = .live o := fun i o hi => by
    rw [hH] at hi
    split at hi
    · rename_i hc
      cases hq : killL σ.H p.fz i with
      | live o' => rw [hq] at hi; exact ⟨o', by simpa using hc, rfl, hi⟩
      | none => rw [hq] at hi; cases hi
      | dead => rw [hq] at hi; cases hi
    · cases hi
  refine ⟨B', ?_, fun t v hv => ?_, fun i o hi => by obtain ⟨o', _, ho, _⟩ := live i o hi; exact ⟨o', killL_live p.fz ho⟩, hF.1, fun i hi => (hdom i (o3 i hi)).1⟩
  · refine ⟨hm.bm, hm.bn, fun i hi => ?_, ⟨fun i o hi => ?_, fun i j o o' hi hj hij => ?_, fun i o hi => ?_, hm.heap.imm⟩, fun i o hi => ?_, hm.frame, hm.size, hm.calm⟩
    · exact ⟨(hdom i (o3 i (hE i hi))).1, (hm.im i hi).2⟩
    · obtain ⟨o', hid, ho, he⟩ := live i o hi
      have h1 := hm0.heap.obj _ _ (killL_live p.fz ho)
      generalize w.heap[(ι i).b]? = q at h1 ⊢
      have hok := hcell i hid
      rw [ho] at hok
      cases o' with
      | box es =>
        simp only [frCell, HCell.live.injEq] at he
        subst he
        have h2 := allP_flatMap c2 i hid
        rw [ho] at h2
        cases h1 with
        | box hsz hr =>
          refine .box (by rw [frL_len]; exact hsz) fun j x z hx hz => ?_
          exact VRel.keepL hdom _ (by simpa only [okCell, frCell, okO] using hok) j x z hx (frL_sound hF es _ h2 hr j x z hx hz)
      | row k n g =>
        simp only [frCell, HCell.live.injEq] at he
        subst he
        cases h1 with
        | row a b cc d => exact .row a b cc fun i j x y hi hx hy => (d i j x y hi hx hy).mono hF.1
      | imap q z hs g st pend =>
        simp only [frCell, HCell.live.injEq] at he
        subst he
        cases h1 with
        | imap a => exact .imap (a.mono hF.1)
    · obtain ⟨_, _, h1, _⟩ := live i o hi
      obtain ⟨_, _, h2, _⟩ := live j o' hj
      exact hm.heap.inj _ _ _ _ h1 h2 hij
    · obtain ⟨_, _, h1, _⟩ := live i o hi
      exact hm.heap.sep _ _ h1
    · obtain ⟨_, _, h1, _⟩ := live i o hi
      exact hm.own _ _ h1
  · rcases getS_map (fun t => frV (frzOf σ.H p.fz) (σ.sl t)) p.sl t with h | ⟨h1, h2⟩
    · show VRel _ _ _ (getS _ t) _
      rw [packST, h]; exact .any
    · show VRel _ _ _ (getS _ t) _
      rw [packST, h2]
      exact VRel.keep hdom _ _ (o1 _ (List.mem_map.2 ⟨t, h1, rfl⟩)) (frV_sound hF _ _ (allP_flatMap c1 t h1) hv)
theorem Rel.pack {p : Pack} {E : List Nat} {a : Act} (hE : ∀ i, c.H0.dom i → i ∈ E) (hok : packOk p E (packST p σ) = true) (hc : allP (packC p σ)) (hR : Rel c B ι σ a w) : ∃ B', Rel c B' ι (packST p σ).st a w := by
  obtain ⟨B', h1, h2, h3, _⟩ := Moved.pack hE hok hc hR.mv
  obtain ⟨Ds, d1, d0, d2, d3⟩ := hR.defers
  refine ⟨B', fun t => h2 t _ (hR.slots t), hR.size, ⟨Ds, d1, d0, d2, fun D hD => ⟨(d3 D hD).1, (d3 D hD).2.here, fun i o hi => ?_⟩⟩, h1⟩
  obtain ⟨o', ho⟩ := h3 i o hi
  exact (d3 D hD).2.sep _ _ ho
theorem CodeE.noGoto {x : Code} (h : CodeE P c x (noGotoE Q) σ) : CodeE P c (.scope x) Q σ := by
  intro B ι a w hR
  refine wpIn_scope_straight (Code.wpIn_mono (fun e a w hq => ?_) (h B ι a w hR))
  obtain ⟨B', ι', σ', hq, hR'⟩ := hq
  cases e with
  | goto l => exact hq.elim
  | _ => exact ⟨B', ι', σ', hq, hR'⟩
theorem andK_mono {l : List Prop} {K K' : Prop} (hK : K → K') (h : andK l K) : andK l K' := by
  cases l with
  | nil => exact hK h
  | cons => exact ⟨h.1, hK h.2⟩
theorem regionP_mono {Γ : FuncId → Option Spec} {mt : Bool} {base n : Nat} {ops : Array Oper} {draw : Bool} {K K' : AState → Prop} (hK : ∀ σ, K σ → K' σ) (h : regionP P Γ mt base n ops draw σ K) : regionP P Γ mt base n ops draw σ K' := by
  unfold regionP at *
  split at h
  · split at h
    · rename_i hc; rw [if_pos hc]; exact andK_mono (hK _) h
    · exact h.elim
  · exact h
end Go.Sym

namespace Go.Sym
variable {P : Program} {B B' : Imm} {ι ι' : Nat → Pl} {H H' : Heap} {D D' : Nat → Prop} {w w' : World} {c : Ctx} {σ σ' : AState}
structure AnnI where
  base : Nat → Nat
  mt : Nat → Bool := fun _ => false
  Γ : FuncId → Option Spec
  loops : Nat → Option LoopAnn := fun _ => none
  /-- the same, by the measures of the loops around, from the inmost one -/
  inner : List Nat → Nat → Option LoopAnn := fun _ _ => none
  pack : Nat → Option Pack := fun _ => none
  E : List Nat
  n : Nat
def AnnI.loopAt (A : AnnI) (gs : List Nat) (k : Nat) : Option LoopAnn := match A.inner gs k with
  | some L => some L
  | none => A.loops k
structure Susp where
  c : Ctx
  sl1 : Nat → AVal
  tmps : Array Value
  Ds : List Nat
  l : Nat
  lp : LoopState → Option Code → Loop
def codeOf : Exit → Code
  | .exit id => .exit id
  | _ => .ret
def stOf : Option Exit → LoopState
  | none => .ready
  | some _ => .done
structure BaseI (S : Susp) (m : Option Exit) (B : Imm) (ι : Nat → Pl) (H : Heap) (w : World) : Prop where
  mv : Moved S.c.B0 S.c.ι0 S.c.H0 S.c.w0 B ι H w
  susp : ∀ t, VRel B ι H.dom (S.sl1 t) (S.tmps.getD t undef)
  marks : ∀ D ∈ S.Ds, S.c.w0.heap.size ≤ D ∧ Quiet D (.deferred (some [])) ι H w
  lge : S.c.w0.heap.size ≤ S.l
  lp : Quiet S.l (.loop (S.lp (stOf m) (m.map codeOf))) ι H w
theorem BaseI.moved {S : Susp} {m : Option Exit} (h : BaseI S m B ι H w) (hm : Moved B ι H w B' ι' H' w') : BaseI S m B' ι' H' w' :=
  ⟨h.mv.trans hm, fun t => hm.vrel (h.susp t), fun D hD => ⟨(h.marks D hD).1, (h.marks D hD).2.moved hm⟩, h.lge, h.lp.moved hm⟩
theorem BaseI.put {S : Susp} {m m' : Option Exit} (h : BaseI S m B ι H w) (h' : w' = w.putObj S.l (.loop (S.lp (stOf m') (m'.map codeOf)))) : BaseI S m' B ι H w' := by
  subst h'
  refine ⟨h.mv.put h.lp (fun _ _ _ h => by cases h) h.lge _, h.susp, fun D hD => ⟨(h.marks D hD).1, (h.marks D hD).2.put_other fun he => ?_⟩, h.lge, h.lp.put_same _⟩
  have h1 := (h.marks D hD).2.here
  rw [← he, h.lp.here] at h1
  cases h1
structure RelI (S : Susp) (n : Nat) (m : Option Exit) (B : Imm) (ι : Nat → Pl) (σ : AState) (a : Act) (w : World) : Prop where
  slots : ∀ t, VRel B ι σ.H.dom (σ.sl t) (a.tmps.getD t undef)
  size : a.tmps.size = n
  nodef : a.defers = []
  base : BaseI S m B ι σ.H w
theorem RelI.tmp {S : Susp} {n : Nat} {m : Option Exit} {a : Act} (h : RelI S n m B ι σ a w) : Rel ⟨B, ι, σ.H, w, n, none, false⟩ B ι σ a w :=
  ⟨h.slots, h.size, ⟨[], h.nodef, fun _ => rfl, List.nodup_nil, fun D hD => by cases hD⟩, Moved.refl h.base.mv.heap⟩
theorem RelI.of {S : Susp} {n : Nat} {m : Option Exit} {a a' : Act} (h : RelI S n m B ι σ a w) (h' : Rel ⟨B, ι, σ.H, w, n, none, false⟩ B' ι' σ' a' w') : RelI S n m B' ι' σ' a' w' := by
  obtain ⟨Ds, h1, h2, _⟩ := h'.defers
  rw [h2 rfl] at h1
  exact ⟨h'.slots, h'.size, h1, h.base.moved h'.mv⟩
def CodeI (P : Program) (S : Susp) (n : Nat) (code : Code) (Q : Exit → Option Exit → AState → Prop) (m : Option Exit) (σ : AState) : Prop :=
  ∀ B ι a w, RelI S n m B ι σ a w → code.wpIn (fen none) 0 P (fun e a' w' => ∃ B' ι' m' σ', Q e m' σ' ∧ RelI S n m' B' ι' σ' a' w') a w
section
variable {S : Susp} {n : Nat} {m : Option Exit} {Q Q' : Exit → Option Exit → AState → Prop}
theorem CodeI.mono {code : Code} (h : CodeI P S n code Q m σ) (hq : ∀ e m σ, Q e m σ → Q' e m σ) : CodeI P S n code Q' m σ :=
  fun B ι a w hR => wpIn_mono (h B ι a w hR) fun _ _ _ ⟨B', ι', m', σ', hQ, hR'⟩ => ⟨B', ι', m', σ', hq _ _ _ hQ, hR'⟩
theorem CodeI.of {code : Code} {Q1 : Exit → AState → Prop} (h : ∀ c : Ctx, c.n = n → c.rd = none → c.H0 = σ.H → CodeE P c code Q1 σ) (hq : ∀ e σ', Q1 e σ' → Q e m σ') : CodeI P S n code Q m σ :=
  fun B ι a w hR => wpIn_mono (h ⟨B, ι, σ.H, w, n, none, false⟩ rfl rfl rfl B ι a w hR.tmp) fun _ _ _ ⟨B', ι', σ', hQ, hR'⟩ => ⟨B', ι', m, σ', hq _ _ hQ, hR.of hR'⟩
def thenI (K : Option Exit → AState → Prop) (Q : Exit → Option Exit → AState → Prop) : Exit → Option Exit → AState → Prop
  | .normal, m, σ => K m σ
  | e, m, σ => Q e m σ
def blockI (id : Nat) (Q : Exit → Option Exit → AState → Prop) : Exit → Option Exit → AState → Prop
  | .exit id', m, σ => if id' = id then Q .normal m σ else Q (.exit id') m σ
  | e, m, σ => Q e m σ
theorem CodeI.seq {x y : Code} (h : CodeI P S n x (thenI (CodeI P S n y Q) Q) m σ) : CodeI P S n (.seq x y) Q m σ := by
  intro B ι a w hR
  refine wpIn_seq (wpIn_mono (h B ι a w hR) fun e a w hq => ?_)
  obtain ⟨B', ι', m', σ', hq, hR'⟩ := hq
  cases e with
  | normal => exact hq B' ι' a w hR'
  | _ => exact ⟨B', ι', m', σ', hq, hR'⟩
theorem CodeI.cond {x : Operand} {t e : Code} {b : Bool} (hx : evalA σ.sl x = .bool b) (ht : b = true → CodeI P S n t Q m σ) (he : b = false → CodeI P S n e Q m σ) : CodeI P S n (.cond x t e) Q m σ := by
  intro B ι a w hR
  have hv := eval_rel hR.slots x
  rw [hx] at hv
  exact wpIn_cond_split hv.d_inv.v_inv (fun h => ht h B ι a w hR) (fun h => he h B ι a w hR)
theorem CodeI.block {id : Nat} {x : Code} (h : CodeI P S n x (blockI id Q) m σ) : CodeI P S n (.block id x) Q m σ := by
  intro B ι a w hR
  refine wpIn_block (wpIn_mono (h B ι a w hR) fun e a w hq => ?_)
  obtain ⟨B', ι', m', σ', hq, hR'⟩ := hq
  cases e with
  | exit id' =>
    simp only [blockI] at hq
    simp only [Exit.inBlock]
    split
    · rename_i he; rw [if_pos he] at hq; exact ⟨B', ι', m', σ', hq, hR'⟩
    · rename_i he; rw [if_neg he] at hq; exact ⟨B', ι', m', σ', hq, hR'⟩
  | _ => exact ⟨B', ι', m', σ', hq, hR'⟩
theorem CodeI.loop {x : Code} (I : Nat → AState → Prop) (k : Nat) (h0 : I k σ) (round : ∀ k σ, I k σ → CodeI P S n x (thenI (fun m' σ' => m' = none ∧ ∃ j, j < k ∧ I j σ') Q) none σ) : CodeI P S n (.loop x) Q none σ := by
  intro B ι a w hR
  refine wpIn_loop_ghost (fun k a w => ∃ B ι σ, I k σ ∧ RelI S n none B ι σ a w) k ⟨B, ι, σ, h0, hR⟩ ?_
  rintro k a w ⟨B, ι, σ, hI, hR⟩
  refine wpIn_mono (round k σ hI B ι a w hR) fun e a w hq => ?_
  obtain ⟨B', ι', m', σ', hq, hR'⟩ := hq
  cases e with
  | normal => obtain ⟨rfl, j, hj, hI⟩ := hq; exact ⟨j, hj, B', ι', σ', hI, hR'⟩
  | _ => exact ⟨B', ι', m', σ', hq, hR'⟩
variable {E : List Nat}
theorem BaseI.keep {p : Nat → Bool} (hS : ∀ t, okV p (S.sl1 t) = true) (h : BaseI S m B ι H w) (hB : ∀ b c, B b = some c → B' b = some c) (hm : Moved S.c.B0 S.c.ι0 S.c.H0 S.c.w0 B' ι' H' w) (hp : ∀ i, p i = true → H'.dom i ∧ ι' i = ι i)
    (hl : ∀ i o, H' i = .live o → ∃ j o', (ι' i).b = (ι j).b ∧ H j = .live o') : BaseI S m B' ι' H' w := by
  have q : ∀ {b x}, Quiet b x ι H w → Quiet b x ι' H' w := fun hq => ⟨hq.here, fun i o hi => by obtain ⟨j, o', h1, h2⟩ := hl i o hi; rw [h1]; exact hq.sep _ _ h2⟩
  exact ⟨hm, fun t => VRel.keep (ι := ι) (D := H.dom) hp _ _ (hS t) ((h.susp t).mono hB fun i hi => ⟨hi, rfl⟩), fun D hD => ⟨(h.marks D hD).1, q (h.marks D hD).2⟩, h.lge, q h.lp⟩
theorem RelI.subF {fz : List Nat} {l : List (Nat × Nat)} {s : ST} {a : Act} (hE : ∀ i, S.c.H0.dom i → i ∈ E) (hS : ∀ t, okV (fun i => E.contains i) (S.sl1 t) = true) (h : propO (condSt E fz l s σ)) (hR : RelI S n m B ι σ a w) :
    ∃ B', RelI S n m B' (fun i => ι (renOf l i)) s.st a w := by
  obtain ⟨B', h1, h2, h3, h4, h5⟩ := Moved.subF hE h hR.base.mv
  exact ⟨B', fun t => h2 t _ (hR.slots t), hR.size, hR.nodef, hR.base.keep hS h4 h1 (fun i hi => by
    obtain ⟨h6, h7⟩ := h5 i (by simpa using hi)
    exact ⟨h6, by show ι (renOf l i) = ι i; rw [h7]⟩) fun i o hi => by obtain ⟨o', ho⟩ := h3 i o hi; exact ⟨_, o', rfl, ho⟩⟩
theorem RelI.pack {p : Pack} {a : Act} (hE : ∀ i, S.c.H0.dom i → i ∈ E) (hS : ∀ t, okV (fun i => E.contains i) (S.sl1 t) = true) (hok : packOk p E (packST p σ) = true) (hc : allP (packC p σ)) (hR : RelI S n m B ι σ a w) :
    ∃ B', RelI S n m B' ι (packST p σ).st a w := by
  obtain ⟨B', h1, h2, h3, h4, h5⟩ := Moved.pack hE hok hc hR.base.mv
  exact ⟨B', fun t => h2 t _ (hR.slots t), hR.size, hR.nodef, hR.base.keep hS h4 h1 (fun i hi => ⟨h5 i (by simpa using hi), rfl⟩) fun i o hi => by obtain ⟨o', ho⟩ := h3 i o hi; exact ⟨i, o', rfl, ho⟩⟩
abbrev YK := List AVal → Heap → (Heap → Prop) → (Exit → Heap → Prop) → Prop
def YieldOk (P : Program) (S : Susp) (yk : YK) : Prop := ∀ (as : List AVal) (H : Heap) (kn : Heap → Prop) (ks : Exit → Heap → Prop), yk as H kn ks → ∀ (B : Imm) (ι : Nat → Pl) (w : World) (vs : Array Value), ArgsRel B ι H.dom as vs → BaseI S none B ι H w →
  ∃ f tmps assign body, (Instr.yield S.l vs).run P w = .ok (.round S.l f tmps assign body) w ∧ RoundIn (fen none) 0 P S.l f tmps assign body w fun e w' =>
    ∃ B' ι' H', (∀ a y, VRel B ι H.dom a y → VRel B' ι' H'.dom a y) ∧ ((e = .returned (.bool true) ∧ kn H' ∧ BaseI S none B' ι' H' w') ∨ ∃ x, e = .returned (.bool false) ∧ ks x H' ∧ BaseI S (some x) B' ι' H' w')
def guardK (ops : Array Oper) (sl : Nat → AVal) (j : Nat) (want : Bool) : Option Bool := match (ops[j]?).bind (·.dst) with
  | some t => match sl t with
    | .d (.v (.bool b)) => some (if want then b else !b)
    | .d (.v (.tuple _)) => some false
    | _ => none
  | none => none
theorem guardK_sound {ops : Array Oper} {sl : Nat → AVal} {o : Oper} {j : Nat} {want g : Bool} {a : Act} (hg : o.guard = some (j, want)) (h : guardK ops sl j want = some g) (hs : ∀ t, VRel B ι D (sl t) (a.tmps.getD t undef)) :
    Region.wanted o (yielded ops a.tmps) = g := by
  unfold guardK at h
  simp only [Region.wanted, hg]
  split at h
  · rename_i t ht
    have hv := hs t
    have hget : a.tmps.getD t undef = (a.tmps[t]?).getD undef := by simp
    split at h
    · rename_i b hb
      cases h
      rw [hb] at hv
      rw [(yielded_of (a := a) ht).1 _ hv.d_inv.v_inv]
      cases want <;> cases b <;> rfl
    · rename_i x hb
      cases h
      rw [hb] at hv
      have h1 := hv.d_inv.v_inv
      have : yielded ops a.tmps j = none := by
        simp only [yielded, ht, Option.bind_some]
        rw [hget] at h1
        cases hq : a.tmps[t]? with
        | none => rfl
        | some y => rw [hq] at h1; simp at h1; subst h1; rfl
      rw [this]; rfl
    · cases h
  · cases h
def stepK (P : Program) (A : AnnI) (l : Nat) (yk : YK) (mt : Bool) (r : Nat) (o : Oper) (K : Option Exit → AState → Prop) (m : Option Exit) (σ : AState) : Prop := match o.op with
  | .call ⟨.value f, args, _⟩ => match evalA σ.sl f with
    | .fn (.yield l') [] [] => match m with
      | none => andK [l' = l] (yk (args.toList.map (evalA σ.sl)) σ.H (fun H' => K none ⟨putS σ.sl o.dst (.bool true), H'⟩) (fun e H' => K (some e) ⟨putS σ.sl o.dst (.bool false), H'⟩))
      | some _ => False
    | fv => match callR A.Γ r fv (args.toList.map (evalA σ.sl)) σ.H with
      | some x => if freshIn σ.H r then andK x.pre (K m (σ.app o.dst x.val x.upd)) else False
      | none => False
  | op => match opA P mt r (evalA σ.sl) σ.H op with
    | some e => if isNone (σ.H r) then andK e.pre (K m (σ.app o.dst e.val e.upd)) else False
    | none => False
def refG (ops : Array Oper) (sl : Nat → AVal) (j : Nat) (b : Bool) : Nat → AVal := match (ops[j]?).bind (·.dst) with
  | some t => match sl t with
    | .d (.v (.bool _)) => putS sl (some t) (.bool b)
    | _ => sl
  | none => sl
theorem refG_rel {ops : Array Oper} {sl : Nat → AVal} {j : Nat} {want g : Bool} (h : guardK ops sl j want = some g) (t' : Nat) {v : Value} (hv : VRel B ι D (sl t') v) : VRel B ι D (refG ops sl j (if g then want else !want) t') v := by
  unfold guardK at h
  unfold refG
  split at h
  · rename_i t ht
    simp only [ht]
    split at h
    · rename_i b hb
      cases h
      simp only [hb]
      have e : (if (if want = true then b else !b) = true then want else !want) = b := by cases want <;> cases b <;> rfl
      rw [e]
      by_cases he : t' = t
      · subst he
        rw [hb] at hv
        simpa [putS] using hv
      · simpa [putS, he] using hv
    · rename_i x hb
      simp only [hb]; exact hv
    · cases h
  · cases h
theorem condP {b : Bool} {p q : Prop} : (bif b then p else q) = ((b = true → p) ∧ (b = false → q)) := by cases b <;> simp
def runK (P : Program) (A : AnnI) (l : Nat) (yk : YK) (mt : Bool) (base : Nat) (ops : Array Oper) (K : Option Exit → AState → Prop) : List Oper → Nat → Option Exit → AState → Prop
  | [], _, m, σ => K m σ
  | o :: rest, k, m, σ => if dstOk A.n o then match o.guard with
      | none => stepK P A l yk mt (base + 16 * k) o (runK P A l yk mt base ops K rest (k + 1)) m σ
      | some (j, want) => match guardK ops σ.sl j want with
        | some g => bif g then stepK P A l yk mt (base + 16 * k) o (runK P A l yk mt base ops K rest (k + 1)) m ⟨refG ops σ.sl j want, σ.H⟩ else runK P A l yk mt base ops K rest (k + 1) m (AState.app ⟨refG ops σ.sl j (!want), σ.H⟩ o.dst (.d (.v undef)) [])
        | none => False
    else False
theorem StepO.bare {ops : Array Oper} {mt : Bool} {r : Nat} {o : Oper} {val : AVal} {upd : List (Nat × HCell)} {touch : List Nat} (h : StepO P mt ops r σ { o with guard := none } val upd touch) {a : Act} (hR : RelI S n m B ι σ a w)
    (hdst : ∀ d, o.dst = some d → d < n) {K : Act → World → Prop} {Q : Exit → Act → World → Prop} (hK : ∀ B' ι' a' w', RelI S n m B' ι' (σ.app o.dst val upd) a' w' → K a' w') : o.wpIn (fen none) 0 P a w K Q := by
  have := h.sound (Q := Q) hR.tmp hdst (K := K) fun B' ι' a' w' hR' => hK B' ι' a' w' (hR.of hR')
  simp only [Region.wanted, if_true] at this
  exact this
theorem stepK_sound {A : AnnI} (hΓ : GOk P A.Γ) {yk : YK} (hy : YieldOk P S yk) {mt : Bool} {r : Nat} {o : Oper} {K : Option Exit → AState → Prop} (h : stepK P A S.l yk mt r o K m σ) (hdst : ∀ d, o.dst = some d → d < n)
    {a : Act} (hR : RelI S n m B ι σ a w) {KW : Act → World → Prop} {Q : Exit → Act → World → Prop} (hK : ∀ B' ι' m' σ' a' w', K m' σ' → RelI S n m' B' ι' σ' a' w' → KW a' w') : o.wpIn (fen none) 0 P a w KW Q := by
  unfold stepK at h
  split at h
  · rename_i f args ats ho
    split at h
    · rename_i l' hf
      split at h
      · obtain ⟨h1, h2⟩ := andK_spec h
        have h1 : l' = S.l := h1
        subst h1
        have hfv := eval_rel hR.slots f
        rw [hf] at hfv
        have hfe : a.eval f = .func (.yield S.l) #[] #[] := by
          generalize a.eval f = v at hfv
          cases hfv with
          | fn hx hy h1 h2 =>
            rename_i xs ys
            have e1 : xs = #[] := by simpa using hx
            have e2 : ys = #[] := by simpa using hy
            subst e1; subst e2; rfl
        have hA : ArgsRel B ι σ.H.dom (args.toList.map (evalA σ.sl)) (args.map a.eval) := ⟨by simp, fun j x y hx hy => by
          obtain ⟨z, hz, rfl⟩ := map_get hx
          rw [Array.getElem?_toList] at hz
          simp [hz] at hy
          subst hy; exact eval_rel hR.slots z⟩
        obtain ⟨fn, tmps, assign, body, hyr, hround⟩ := hy _ _ _ _ h2 B ι w _ hA hR.base
        refine ⟨fen_about o a _, ?_⟩
        rw [Oper.semAt_eq _ _ _ (by rw [ho]; exact fun _ h => by cases h)]
        have hrun : (execOp a.eval o).run P w = .ok (.round S.l fn tmps assign body) w := by
          simp only [execOp, ho, resolve, hfe, Deferred.ofValue, invoke, Sem.run_bind, Sem.run_pure, Result.andThen_ok]
          simpa using hyr
        rw [hrun, Oper.uponIn_round]
        refine ⟨(fun h => by cases h), RoundIn.mono hround fun e w' hh => ?_⟩
        obtain ⟨B', ι', H', ht, hh⟩ := hh
        have put : ∀ b m', BaseI S m' B' ι' H' w' → RelI S n m' B' ι' ⟨putS σ.sl o.dst (.bool b), H'⟩ (a.put o.dst (.bool b)) w' := fun b m' hb =>
          ⟨fun t => slots_put (fun t => ht _ _ (hR.slots t)) (fun d hd => by rw [hR.size]; exact hdst d hd) (.d (.v _)) t, by cases o.dst <;> simp [Act.put, hR.size], by cases o.dst <;> simp [Act.put, hR.nodef], hb⟩
        rcases hh with ⟨rfl, h3, h4⟩ | ⟨x, rfl, h3, h4⟩
        · exact hK _ _ _ _ _ _ h3 (put true _ h4)
        · exact hK _ _ _ _ _ _ h3 (put false _ h4)
      · exact h.elim
    · split at h
      · rename_i x hx
        split at h
        · rename_i hfr
          obtain ⟨h1, h2⟩ := andK_spec h
          obtain ⟨g, first, caps, he, hc⟩ := callR_spec hΓ hx
          have mp : ∀ (l : List Nat), (l.map fun i => (i, σ.H i)).map (·.1) = l := fun l => by
            induction l with
            | nil => rfl
            | cons a l ih => simp only [List.map_cons, ih]
          exact StepO.bare (ops := #[]) (mt := mt) (.call (f := f) (args := args) (ats := ats) rfl ho he (hc h1) (cells_true _ _) (freshIn_spec hfr)) hR hdst fun B' ι' a' w' hR' => hK _ _ _ _ _ _ h2 hR'
        · exact h.elim
      · exact h.elim
  · split at h
    · rename_i e he
      split at h
      · rename_i hfr
        obtain ⟨h1, h2⟩ := andK_spec h
        exact StepO.bare (ops := #[]) (mt := mt) (.op rfl he h1 (isNone_eq hfr)) hR hdst fun B' ι' a' w' hR' => hK _ _ _ _ _ _ h2 hR'
      · exact h.elim
    · exact h.elim
theorem runK_sound {A : AnnI} (hΓ : GOk P A.Γ) {yk : YK} (hy : YieldOk P S yk) (hn : A.n = n) {mt : Bool} {base : Nat} {ops : Array Oper} {K : Option Exit → AState → Prop} (hK : ∀ m σ, K m σ → Q .normal m σ) : ∀ (l : List Oper) (k : Nat) (m : Option Exit) (σ : AState), runK P A S.l yk mt base ops K l k m σ →
    ∀ B ι a w, RelI S n m B ι σ a w → wpListIn (fen none) 0 P ops (fun e a' w' => ∃ B' ι' m' σ', Q e m' σ' ∧ RelI S n m' B' ι' σ' a' w') l a w
  | [], _, m, σ, h, B, ι, a, w, hR => ⟨B, ι, m, σ, hK _ _ h, hR⟩
  | o :: l, k, m, σ, h, B, ι, a, w, hR => by
    simp only [runK] at h
    split at h
    · rename_i hd
      have hdst : ∀ d, o.dst = some d → d < n := fun d h => hn ▸ dstOk_spec hd d h
      have go : ∀ σ, RelI S n m B ι σ a w → stepK P A S.l yk mt (base + 16 * k) o (runK P A S.l yk mt base ops K l (k + 1)) m σ → o.wpIn (fen none) 0 P a w (wpListIn (fen none) 0 P ops (fun e a' w' => ∃ B' ι' m' σ', Q e m' σ' ∧ RelI S n m' B' ι' σ' a' w') l) (fun e a' w' => ∃ B' ι' m' σ', Q e m' σ' ∧ RelI S n m' B' ι' σ' a' w') :=
        fun σ hR h => stepK_sound hΓ hy h hdst hR fun B' ι' m' σ' a' w' h1 h2 => runK_sound hΓ hy hn hK l (k + 1) m' σ' h1 B' ι' a' w' h2
      unfold wpListIn
      split at h
      · rename_i hg
        simp only [Region.wanted, hg, if_true]
        exact go σ hR h
      · rename_i j want hg
        split at h
        · rename_i g hgd
          rw [guardK_sound hg hgd hR.slots]
          have hR2 : RelI S n m B ι ⟨refG ops σ.sl j (if g then want else !want), σ.H⟩ a w := ⟨fun t => refG_rel hgd t (hR.slots t), hR.size, hR.nodef, hR.base⟩
          cases g with
          | true => simp only [if_true]; exact go _ hR2 h
          | false =>
            simp only [Bool.false_eq_true, if_false]
            refine ⟨fen_about o a _, runK_sound hΓ hy hn hK l (k + 1) m _ h B ι _ w ?_⟩
            exact ⟨fun t => slots_put hR2.slots (fun d hd => by rw [hR.size]; exact hdst d hd) (.d (.v _)) t, by cases o.dst <;> simp [Act.put, hR.size], by cases o.dst <;> simp [Act.put, hR.nodef], hR.base⟩
        · exact h.elim
    · exact h.elim
def vcI (P : Program) (A : AnnI) (l : Nat) (yk : YK) : Code → List Nat → (Exit → Option Exit → AState → Prop) → Option Exit → AState → Prop
  | .skip, _, Q, m, σ => Q .normal m σ
  | .label _, _, Q, m, σ => Q .normal m σ
  | .exit id, _, Q, m, σ => Q (.exit id) m σ
  | .ret, _, Q, m, σ => Q .ret m σ
  | .seq a b, gs, Q, m, σ => vcI P A l yk a gs (thenI (vcI P A l yk b gs Q) Q) m σ
  | .cond x t e, gs, Q, m, σ => match evalA σ.sl x with
    | .d (.v (.bool b)) => bif b then vcI P A l yk t gs Q m σ else vcI P A l yk e gs Q m σ
    | _ => False
  | .block id b, gs, Q, m, σ => vcI P A l yk b gs (blockI id Q) m σ
  | .loop b, gs, Q, m, σ => match m, A.loopAt gs (keyOf b) with
    | none, some L => loopTo A.E (·.at1) σ (fun s a => s.inv a) L ∧
        allS (fun s => ∀ a, s.inv a → vcI P A l yk b (s.meas a :: gs) (thenI (fun m' σ' => match m' with
          | none => loopTo A.E (·.at2) σ' (fun s' a' => s'.inv a' ∧ s'.meas a' < s.meas a) L
          | some _ => False) Q) none (s.T a).st) L
    | _, _ => False
  | .region id ops draw, _, Q, m, σ => match draw with
    | true => regionP P A.Γ (A.mt id) (A.base id) A.n ops true σ fun σ' => packP (A.pack id) A.E σ' (Q .normal m)
    | false => runK P A l yk (A.mt id) (A.base id) ops (fun m' σ' => packP (A.pack id) A.E σ' (Q .normal m')) ops.toList 0 m σ
  | _, _, _, _, _ => False
theorem vcI_sound {A : AnnI} (hΓ : GOk P A.Γ) (hm : P.follows .mixedOrders = true) {yk : YK} (hy : YieldOk P S yk) (hn : A.n = n) (hE : ∀ i, S.c.H0.dom i → i ∈ A.E) (hS : ∀ t, okV (fun i => A.E.contains i) (S.sl1 t) = true) :
    ∀ (code : Code) (gs : List Nat) (Q : Exit → Option Exit → AState → Prop) (m : Option Exit) (σ : AState), vcI P A S.l yk code gs Q m σ → CodeI P S n code Q m σ := by
  have pk : ∀ {id : Nat} {Q : Exit → Option Exit → AState → Prop} {m : Option Exit} {σ : AState} {B : Imm} {ι : Nat → Pl} {a : Act} {w : World}, packP (A.pack id) A.E σ (Q .normal m) → RelI S n m B ι σ a w → ∃ B' ι' m' σ', Q .normal m' σ' ∧ RelI S n m' B' ι' σ' a w := fun {id Q m σ B ι a w} h hR => by
    unfold packP at h
    split at h
    · exact ⟨B, ι, m, σ, h, hR⟩
    · split at h
      · rename_i p hp hok
        obtain ⟨h1, h2⟩ := andK_spec h
        obtain ⟨B', hR'⟩ := hR.pack hE hS hok h1
        exact ⟨B', ι, m, _, h2, hR'⟩
      · exact h.elim
  intro code
  induction code with
  | skip => intro gs Q m σ h B ι a w hR; exact wpIn_skip ⟨B, ι, m, σ, h, hR⟩
  | label l => intro gs Q m σ h B ι a w hR; exact wpIn_label ⟨B, ι, m, σ, h, hR⟩
  | exit id => intro gs Q m σ h B ι a w hR; exact wpIn_exit ⟨B, ι, m, σ, h, hR⟩
  | ret => intro gs Q m σ h B ι a w hR; exact wpIn_ret ⟨B, ι, m, σ, h, hR⟩
  | seq a b iha ihb =>
    intro gs Q m σ h
    refine .seq (CodeI.mono (iha gs _ m σ h) fun e m σ' hq => ?_)
    cases e with
    | normal => exact ihb gs Q m σ' hq
    | _ => exact hq
  | cond x t e iht ihe =>
    intro gs Q m σ h
    simp only [vcI] at h
    split at h
    · rename_i b hb
      rw [condP] at h; exact .cond hb (fun hb => iht gs Q m σ (h.1 hb)) fun hb => ihe gs Q m σ (h.2 hb)
    · exact h.elim
  | block id b ih => intro gs Q m σ h; exact .block (ih gs _ m σ h)
  | loop b ih =>
    intro gs Q m σ h
    simp only [vcI] at h
    split at h
    · rename_i L hL
      obtain ⟨h0, h3⟩ := h
      obtain ⟨s, hs, a, h1, h2⟩ := loopTo_spec h0
      refine .loop (fun k σ => ∃ l fz s a, s ∈ L ∧ propO (condSt A.E fz l (s.T a) σ) ∧ s.inv a ∧ s.meas a = k) (s.meas a) ⟨_, _, s, a, hs, h1, h2, rfl⟩ ?_
      rintro k σ' ⟨l, fz, s, a, hs, h4, h5, rfl⟩ B ι act w hR
      obtain ⟨B', hR'⟩ := hR.subF hE hS h4
      refine wpIn_mono (ih _ _ _ _ (allS_spec h3 s hs a h5) B' _ act w hR') fun e a' w' hq => ?_
      obtain ⟨B2, ι2, m2, σ2, hq, hR2⟩ := hq
      refine ⟨B2, ι2, m2, σ2, ?_, hR2⟩
      cases e with
      | normal =>
        simp only [thenI] at hq
        cases m2 with
        | none => obtain ⟨s', q0, a', q1, q2, q3⟩ := loopTo_spec hq; exact ⟨rfl, s'.meas a', q3, _, _, s', a', q0, q1, q2, rfl⟩
        | some x => exact hq.elim
      | _ => exact hq
    · exact h.elim
  | scope b ih => intro gs Q m σ h; exact h.elim
  | region id ops draw =>
    intro gs Q m σ h
    cases draw with
    | true =>
      simp only [vcI] at h
      intro B ι a w hR
      have h1 : CodeI P S n (.region id ops true) (fun e m' σ' => e = .normal ∧ packP (A.pack id) A.E σ' (Q .normal m')) m σ :=
        CodeI.of (Q1 := fun e σ' => e = .normal ∧ packP (A.pack id) A.E σ' (Q .normal m)) (fun c h1 h2 h3 => regionP_sound (id := id) hΓ hm (by rw [h1, ← hn]; exact regionP_mono (fun σ' hk => ⟨rfl, hk⟩) h)) fun e σ' h => h
      refine wpIn_mono (h1 B ι a w hR) fun e a' w' hq => ?_
      obtain ⟨B', ι', m', σ', ⟨rfl, hp⟩, hR'⟩ := hq
      exact pk hp hR'
    | false =>
      simp only [vcI] at h
      intro B ι a w hR
      have := wpIn_region_list (id := id) (runK_sound (Q := fun e m' σ' => e = .normal ∧ packP (A.pack id) A.E σ' (Q .normal m')) hΓ hy hn (fun m σ h => ⟨rfl, h⟩) _ _ _ _ h B ι a w hR)
      refine wpIn_mono this fun e a' w' hq => ?_
      obtain ⟨B', ι', m', σ', ⟨rfl, hp⟩, hR'⟩ := hq
      exact pk hp hR'
  | rangeFunc => intro gs Q m σ h; exact h.elim
  | goto => intro gs Q m σ h; exact h.elim
  | refuse => intro gs Q m σ h; exact h.elim
end
end Go.Sym

namespace Go.Sym
variable {P : Program} {B B' : Imm} {ι ι' : Nat → Pl} {H H' : Heap} {D : Nat → Prop} {w w' : World} {c : Ctx} {σ : AState} {Q : Exit → AState → Prop}
theorem Rel.frz {a : Act} {id kk n n2 : Nat} {get : Nat → DVal} {dst : Option Tmp} (h : Rel c B ι σ a w) (hid : σ.H id = .live (.row kk n2 get)) (hv : ∀ d, dst = some d → σ.sl d = .own id kk 0 n) (hn : n = n2) :
    ∃ B', Rel c B' ι ⟨putS σ.sl dst (.d (.list kk n get false)), updH σ.H id .dead⟩ a w := by
  obtain ⟨B', hm, hF⟩ := killL_moved [id] h.mv.heap
  have hk : killL σ.H [id] = updH σ.H id .dead := by simp only [killL, hid]
  rw [hk] at hm
  have hf : frzOf σ.H [id] id = some (kk, n2, get) := by simp [frzOf, hid]
  refine ⟨B', ⟨fun t => ?_, h.size, ?_, h.mv.trans hm⟩⟩
  · simp only [putS_eq]
    split
    · rename_i hd
      have := h.slots t
      rw [hv t hd] at this
      exact .d (frz_list hF hf rfl (by omega) (fun j _ => by rw [Nat.zero_add]; exact dsub_refl _) this)
    · exact hm.vrel (h.slots t)
  · obtain ⟨Ds, h1, h0, h2, h3⟩ := h.defers
    exact ⟨Ds, h1, h0, h2, fun D hD => ⟨(h3 D hD).1, (h3 D hD).2.moved hm⟩⟩
def stepM (P : Program) (Γ : FuncId → Option Spec) (mt : Bool) (ops : Array Oper) (r : Nat) (o : Oper) (σ : AState) (K : AState → Prop) : Prop := match stepR P Γ mt ops r σ o with
  | some s => andK (tagsA σ.sl o ++ s.pre) (K (σ.app o.dst s.val s.upd))
  | none => False
def stepF (P : Program) (Γ : FuncId → Option Spec) (ops : Array Oper) (r : Nat) (o : Oper) (σ : AState) (K : AState → Prop) : Prop := match stepR P Γ true ops r σ o with
  | some s => match o.dst, s.val with
    | some d, .own id kk 0 n => match setH σ.H s.upd id with
      | .live (.row k2 n2 get) => if Nat.beq kk k2 then andK (tagsA σ.sl o ++ (s.pre ++ [n = n2])) (K ⟨putS σ.sl (some d) (.d (.list kk n get false)), updH (setH σ.H s.upd) id .dead⟩) else False
      | _ => False
    | _, _ => False
  | none => False
def runM (P : Program) (Γ : FuncId → Option Spec) (md : Nat → Nat) (ops : Array Oper) (base n : Nat) (K : AState → Prop) : List Oper → Nat → AState → Prop
  | [], _, σ => K σ
  | o :: l, k, σ => if dstOk n o && o.guard.isNone then match md k with
      | 0 => stepM P Γ false ops (base + 16 * k) o σ (runM P Γ md ops base n K l (k + 1))
      | 1 => stepM P Γ true ops (base + 16 * k) o σ (runM P Γ md ops base n K l (k + 1))
      | _ => stepF P Γ ops (base + 16 * k) o σ (runM P Γ md ops base n K l (k + 1))
    else False
theorem stepM_sound {Γ : FuncId → Option Spec} (hΓ : GOk P Γ) {mt : Bool} {ops : Array Oper} {r : Nat} {o : Oper} {K : AState → Prop} (h : stepM P Γ mt ops r o σ K) : ∃ s : Stp, StepO P mt ops r σ o s.val s.upd s.touch ∧ K (σ.app o.dst s.val s.upd) := by
  unfold stepM at h
  split at h
  · rename_i s hs
    obtain ⟨h1, h2⟩ := andK_spec h
    obtain ⟨h3, h4⟩ := allP_append h1
    exact ⟨s, stepR_sound hΓ hs h4 fun _ => h3, h2⟩
  · exact h.elim
theorem runM_sound {Γ : FuncId → Option Spec} (hΓ : GOk P Γ) {md : Nat → Nat} {ops : Array Oper} {base : Nat} : ∀ (l : List Oper) (k : Nat) (σ : AState), runM P Γ md ops base c.n (Q .normal) l k σ → ∀ B ι a w, Rel c B ι σ a w →
    wpListIn (fen c.rd) 0 P ops (fun e a' w' => ∃ B' ι' σ', Q e σ' ∧ Rel c B' ι' σ' a' w') l a w
  | [], _, σ, h, B, ι, _, _, hR => ⟨B, ι, σ, h, hR⟩
  | o :: l, k, σ, h, B, ι, a, w, hR => by
    unfold runM at h
    split at h
    case isFalse => exact h.elim
    rename_i hc
    simp only [Bool.and_eq_true] at hc
    have hd := dstOk_spec hc.1
    have hg : o.guard = none := by
      cases hq : o.guard with
      | none => rfl
      | some q => rw [hq] at hc; exact absurd hc.2 (by simp)
    have step : ∀ {mt : Bool}, stepM P Γ mt ops (base + 16 * k) o σ (runM P Γ md ops base c.n (Q .normal) l (k + 1)) → wpListIn (fen c.rd) 0 P ops (fun e a' w' => ∃ B' ι' σ', Q e σ' ∧ Rel c B' ι' σ' a' w') (o :: l) a w := fun h => by
      obtain ⟨s, h1, h2⟩ := stepM_sound hΓ h
      exact h1.sound hR hd fun B' ι' a' w' hR' => runM_sound hΓ l (k + 1) _ h2 B' ι' a' w' hR'
    split at h
    · exact step h
    · exact step h
    · unfold stepF at h
      split at h
      case h_2 => exact h.elim
      rename_i s hs
      split at h
      case h_2 => exact h.elim
      rename_i d id kk n hdst hval
      split at h
      case h_2 => exact h.elim
      rename_i k2 n2 get hid
      split at h
      case isFalse => exact h.elim
      rename_i hkk
      rw [natBeq_iff] at hkk
      subst hkk
      obtain ⟨h1, h2⟩ := andK_spec h
      obtain ⟨h3, h4⟩ := allP_append h1
      obtain ⟨h5, h6⟩ := allP_append h4
      have st := stepR_sound hΓ hs h5 fun _ => h3
      refine st.sound hR hd fun B' ι' a' w' hR' => ?_
      obtain ⟨B2, hR2⟩ := hR'.frz (dst := some d) (n := n) (get := get) (id := id) hid (fun d' hd' => by
        cases hd'
        simp only [AState.app, putS_eq, hdst, if_true]; exact hval) h6
      have e : (⟨putS (σ.app o.dst s.val s.upd).sl (some d) (.d (.list kk n get false)), updH (σ.app o.dst s.val s.upd).H id .dead⟩ : AState) = ⟨putS σ.sl (some d) (.d (.list kk n get false)), updH (setH σ.H s.upd) id .dead⟩ := by
        simp only [AState.app, hdst]
        congr 1
        funext t
        simp only [putS_eq]
        split <;> rfl
      rw [e] at hR2
      exact runM_sound hΓ l (k + 1) _ h2 B2 ι' a' w' hR2
theorem regionM_sound {Γ : FuncId → Option Spec} (hΓ : GOk P Γ) {md : Nat → Nat} {ops : Array Oper} {base id : Nat} (h : runM P Γ md ops base c.n (Q .normal) ops.toList 0 σ) : CodeE P c (.region id ops false) Q σ :=
  fun B ι a w hR => wpIn_region_list (runM_sound hΓ ops.toList 0 σ h B ι a w hR)
end Go.Sym
