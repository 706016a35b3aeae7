/- Shapes at loops; freezing and forgetting behind a region. -/
import Derived.Test.YtonddbmhljelgaaSym7
set_option linter.unusedVariables false
set_option linter.unusedSimpArgs false
namespace Go.Sym
variable {P : Program} {B B' : De} {ι ι' : Nat -> Pl} {H H' : Heap} {D D' : Nat -> Prop} {w w' : World} {c : Ctx} {σ : AState} {Q : Exit -> AState -> Prop}
structure Shape where
 α : Type
 dflt : α
 T : α -> ST
 inv : α -> Prop
 meas : α -> Nat
 first : List (Nat × Nat) := []
 again : List (Nat × Nat) := []
 ffz : List Nat := []
 afz : List Nat := []
 /-- what the annotations within are told, behind the measure -/
 tag : List Nat := []
def Shape.at1 (s : Shape) : List (Nat × Nat) × List Nat := (s.first, s.ffz)
def Shape.at2 (s : Shape) : List (Nat × Nat) × List Nat := (s.again, s.afz)
abbrev pC := List Shape
def YS (E : List Nat) (sel : Shape -> List (Nat × Nat) × List Nat) (σ : AState) (K : (s : Shape) -> s.α -> Prop) : List Shape -> Prop
 | [] => False
 | s :: l => if (XN E (sel s).2 (sel s).1 (s.T s.dflt) σ).isSome then ∃ a, BCG (XN E (sel s).2 (sel s).1 (s.T a) σ) (K s a) else YS E sel σ K l
theorem QP {E : List Nat} {sel : Shape -> List (Nat × Nat) × List Nat} {K : (s : Shape) -> s.α -> Prop} : ∀ {l : List Shape}, YS E sel σ K l -> ∃ s ∈ l, ∃ a, ET (XN E (sel s).2 (sel s).1 (s.T a) σ) /\ K s a
 | [], h => h.elim
 | s :: l, h => by
  unfold YS at h
  split at h
  ·obtain ⟨a, h⟩ := h
   obtain ⟨h1, h2⟩ := tM h
   exact ⟨s, by simp, a, h1, h2⟩
  ·obtain ⟨s', h1, h2⟩ := QP h
   exact ⟨s', by simp [h1], h2⟩
def allS (K : Shape -> Prop) : List Shape -> Prop
 | [] => True
 | [s] => K s
 | s :: l => K s /\ allS K l
theorem Cy {K : Shape -> Prop} : ∀ {l : List Shape}, allS K l -> ∀ s ∈ l, K s
 | [], _, s, h => by cases h
 | [t], h, s, hs => by simp at hs; subst hs; exact h
 | t :: u :: l, h, s, hs => by
  rcases List.mem_cons.1 hs with rfl | hs
  ·exact h.1
  ·exact Cy (l := u :: l) h.2 s hs
def Gw : Code -> Nat
 | .region id _ _ => id
 | .seq a _ => Gw a
 | .block _ b => Gw b
 | .cond _ t _ => Gw t
 | .loop b => Gw b
 | .scope b => Gw b
 | .rangeFunc _ _ a _ => Gw a
 | _ => 0
def U5 (Q : Exit -> AState -> Prop) : Exit -> AState -> Prop
 | .goto _, _ => False
 | e, σ => Q e σ
mutual
def frV (F : oW) : AVal -> AVal
 | .own id k i n => match F id with
  | some (k2, _, get) => if Nat.beq k k2 then .d (.list k n (λ j => get (i + j)) false) else .any
  | none => .own id k i n
 | .agg cs => ADM (frL F cs)
 | .tup cs => AJY (frL F cs)
 | .fn f a b => .fn f (frL F a) (frL F b)
 | .opt g a => .opt g (frV F a)
 | a => a
def frL (F : oW) : List AVal -> List AVal
 | [] => []
 | a :: r => frV F a :: frL F r
end
mutual
def frC (F : oW) : AVal -> List Prop
 | .own id _ i n => match F id with
  | some (_, m, _) => [i + n <= m]
  | none => []
 | .agg cs => frCL F cs
 | .tup cs => frCL F cs
 | .fn _ a b => frCL F a ++ frCL F b
 | .opt _ a => frC F a
 | _ => []
def frCL (F : oW) : List AVal -> List Prop
 | [] => []
 | a :: r => frC F a ++ frCL F r
end
theorem bM (F : oW) : ∀ l : List AVal, (frL F l).length = l.length
 | [] => rfl
 | a :: l => by simp [frL, bM F l]
theorem BDW (x : Value) : vEq x x := by
 unfold vEq; split <;> simp_all
mutual
theorem Jj : ∀ (x : DVal), IH x x
 | .v x => by simp only [IH]; exact BDW x
 | .agg xs => by simp only [IH]; exact sH xs
 | .tup xs => by simp only [IH]; exact sH xs
 | .list k n g e => by simp only [IH]; exact ⟨.inl trivial, trivial, id, λ i _ => Jj (g i)⟩
 | .arr k n g => by simp only [IH]; exact ⟨trivial, trivial, λ i _ => Jj (g i)⟩
 | .eref x c => by simp only [IH]; exact ⟨trivial, Jj x⟩
theorem sH : ∀ (l : List DVal), ZZ l l
 | [] => trivial
 | x :: l => ⟨Jj x, sH l⟩
end
mutual
theorem F3 {F : oW} (hF : mC B B' ι F) : ∀ (a : AVal) (v : Value), DV (frC F a) -> VRel B ι D a v -> VRel B' ι D (frV F a) v
 | .own id k i n, v, h, hv => by
  simp only [frC] at h
  simp only [frV]
  split
  ·rename_i k2 m get hf
   simp only [hf] at h
   split
   ·rename_i hk
    have := Nat.eq_of_beq_eq_true hk; subst this
    exact .d (AGW hF hf rfl h (λ j _ => Jj _) hv)
   ·exact .any
  ·exact hv.mono hF.1 λ i hi => ⟨hi, rfl⟩
 | .agg cs, v, h, hv => by
  simp only [frV]
  cases hv with
  | agg hl hr => exact pJ (by rw [bM]; exact hl) (Kk hF cs _ h hr)
 | .tup cs, v, h, hv => by
  simp only [frV]
  cases hv with
  | tup hl hr => exact AII (by rw [bM]; exact hl) (Kk hF cs _ h hr)
 | .fn f a b, v, h, hv => by
  simp only [frV]
  simp only [frC] at h
  obtain ⟨h1, h2⟩ := BR h
  cases hv with
  | fn h3 h4 h5 h6 => exact .fn (by rw [bM]; exact h3) (by rw [bM]; exact h4) (Kk hF a _ h1 h5) (Kk hF b _ h2 h6)
 | .opt g a, v, h, hv => by
  simp only [frV]
  cases hv with
  | opt h1 h2 => exact .opt (λ hg => F3 hF a v h (h1 hg)) h2
 | .d x, v, _, hv => by simp only [frV]; exact hv.mono hF.1 λ i hi => ⟨hi, rfl⟩
 | .bptr i c, v, _, hv => by simp only [frV]; exact hv.mono hF.1 λ i hi => ⟨hi, rfl⟩
 | .rptr i k e c, v, _, hv => by simp only [frV]; exact hv.mono hF.1 λ i hi => ⟨hi, rfl⟩
 | .mref i, v, _, hv => by simp only [frV]; exact hv.mono hF.1 λ i hi => ⟨hi, rfl⟩
 | .any, v, _, _ => by simp only [frV]; exact .any
theorem Kk {F : oW} (hF : mC B B' ι F) : ∀ (l : List AVal) (ys : Array Value), DV (frCL F l) -> (∀ (j : Nat) (x : AVal) (y : Value), l[j]? = some x -> ys[j]? = some y -> VRel B ι D x y) ->
  ∀ (j : Nat) (x : AVal) (y : Value), (frL F l)[j]? = some x -> ys[j]? = some y -> VRel B' ι D x y
 | [], ys, _, _, j, x, y, hx, _ => by simp [frL] at hx
 | a :: l, ys, h, hr, j, x, y, hx, hy => by
  obtain ⟨h1, h2⟩ := BR (by simpa only [frCL] using h)
  cases j with
  | zero =>
   simp only [frL, List.getElem?_cons_zero, Option.some.injEq] at hx
   subst hx
   exact F3 hF a y h1 (hr 0 a y rfl hy)
  | succ j =>
   simp only [frL, List.getElem?_cons_succ] at hx
   exact Kk hF l (ys.extract 1 ys.size) h2 (λ i x y hx hy => hr (i + 1) x y (by simpa using hx) (by
    rw [Array.getElem?_extract] at hy
    split at hy
    ·rw [Nat.add_comm]; exact hy
    ·cases hy)) j x y hx (by
    have hlt := (Array.getElem?_eq_some_iff.1 hy).1
    rw [Array.getElem?_extract, if_pos (by omega), Nat.add_comm]; exact hy)
end
mutual
theorem VRel.keep {p : Nat -> Bool} (hp : ∀ i, p i = true -> D' i /\ ι' i = ι i) : ∀ (a : AVal) (v : Value), Mb p a = true -> VRel B ι D a v -> VRel B ι' D' a v
 | .d x, v, _, hv => .d hv.d_inv
 | .agg cs, v, h, hv => by
  cases hv with
  | agg hl hr => exact .agg hl λ j x y hx hy => VRel.keepL hp cs (by simpa only [Mb] using h) j x y hx (hr j x y hx hy)
 | .tup cs, v, h, hv => by
  cases hv with
  | tup hl hr => exact .tup hl λ j x y hx hy => VRel.keepL hp cs (by simpa only [Mb] using h) j x y hx (hr j x y hx hy)
 | .bptr i c, v, h, hv => by cases hv; rw [<- (hp i (by simpa only [Mb] using h)).2]; exact .bptr (hp i (by simpa only [Mb] using h)).1
 | .rptr i k e c, v, h, hv => by cases hv; rw [<- (hp i (by simpa only [Mb] using h)).2]; exact .rptr (hp i (by simpa only [Mb] using h)).1
 | .own i k e n, v, h, hv => by
  cases hv with
  | own _ h1 h2 => rw [<- (hp i (by simpa only [Mb] using h)).2] at h2 ⊢; exact .own (hp i (by simpa only [Mb] using h)).1 h1 h2
 | .fn f a b, v, h, hv => by
  simp only [Mb, Bool.and_eq_true] at h
  cases hv with
  | fn h1 h2 h3 h4 => exact .fn h1 h2 (λ j x y hx hy => VRel.keepL hp a h.1 j x y hx (h3 j x y hx hy)) λ j x y hx hy => VRel.keepL hp b h.2 j x y hx (h4 j x y hx hy)
 | .mref i, v, h, hv => by cases hv; rw [<- (hp i (by simpa only [Mb] using h)).2]; exact .mref (hp i (by simpa only [Mb] using h)).1
 | .any, v, _, _ => .any
 | .opt g a, v, h, hv => by
  cases hv with
  | opt h1 h2 => exact .opt (λ hg => VRel.keep hp a v (by simpa only [Mb] using h) (h1 hg)) h2
theorem VRel.keepL {p : Nat -> Bool} (hp : ∀ i, p i = true -> D' i /\ ι' i = ι i) : ∀ (l : List AVal), okL p l = true -> ∀ (j : Nat) (x : AVal) (v : Value), l[j]? = some x -> VRel B ι D x v -> VRel B ι' D' x v
 | [], _, j, x, v, hx, _ => by simp at hx
 | a :: l, h, 0, x, v, hx, hv => by simp at hx; subst hx; simp only [okL, Bool.and_eq_true] at h; exact VRel.keep hp a v h.1 hv
 | a :: l, h, j + 1, x, v, hx, hv => by simp only [okL, Bool.and_eq_true] at h; exact VRel.keepL hp l h.2 j x v (by simpa using hx) hv
end
structure Pack where
 sl : List Nat
 ids : List Nat
 fz : List Nat := []
def mS (F : oW) : HCell -> HCell
 | .live (.box es) => .live (.box (frL F es))
 | x => x
def BKJ (F : oW) : HCell -> List Prop
 | .live (.box es) => frCL F es
 | _ => []
def AUC (p : Nat -> Bool) : HCell -> Bool
 | .live o => okO p o
 | .dead => true
 | .none => false
def VJ (p : Pack) (σ : AState) : ST :=
 ⟨p.sl.map λ t => (t, frV (PP σ.H p.fz) (σ.sl t)), p.ids.map λ i => (i, mS (PP σ.H p.fz) (EK σ.H p.fz i))⟩
def BBP (p : Pack) (σ : AState) : List Prop := (p.sl.flatMap λ t => frC (PP σ.H p.fz) (σ.sl t)) ++ p.ids.flatMap λ i => BKJ (PP σ.H p.fz) (EK σ.H p.fz i)
def V0 (p : Pack) (E : List Nat) (s : ST) : Bool :=
 s.sl.all (λ x => Mb (λ i => p.ids.contains i) x.2) && s.H.all (λ x => AUC (λ i => p.ids.contains i) x.2) && E.all (λ i => p.ids.contains i) && nodup p.ids
def pY (o : Option Pack) (E : List Nat) (σ : AState) (K : AState -> Prop) : Prop := match o with
 | none => K σ
 | some p => if V0 p E (VJ p σ) then R8 (BBP p σ) (K (VJ p σ).st) else False
theorem dB {α : Type} {f : α -> List Prop} : ∀ {l : List α}, DV (l.flatMap f) -> ∀ x ∈ l, DV (f x)
 | [], _, x, hx => by cases hx
 | a :: l, h, x, hx => by
  rw [List.flatMap_cons] at h
  obtain ⟨h1, h2⟩ := BR h
  rcases List.mem_cons.1 hx with rfl | hx
  ·exact h1
  ·exact dB h2 x hx
theorem mA (f : Nat -> AVal) : ∀ (l : List Nat) (t : Nat), LU (l.map λ t => (t, f t)) t = .any ∨ (t ∈ l /\ LU (l.map λ t => (t, f t)) t = f t)
 | [], t => .inl rfl
 | a :: l, t => by
  simp only [List.map_cons, LU]
  split
  ·rename_i h; subst h; exact .inr ⟨by simp, rfl⟩
  ·rcases mA f l t with h | ⟨h1, h2⟩
   ·exact .inl h
   ·exact .inr ⟨by simp [h1], h2⟩
theorem APU (f : Nat -> HCell) : ∀ (l : List Nat) (i : Nat), XX (l.map λ i => (i, f i)) i = if l.contains i then some (f i) else none
 | [], i => rfl
 | a :: l, i => by
  simp only [List.map_cons, XX, APU f l, List.contains_cons]
  by_cases h : i = a
  ·subst h; simp
  ·have : (i == a) = false := by simpa using h
   rw [if_neg h, this]; simp
theorem Moved.pack {B0 : De} {ι0 : Nat -> Pl} {H0 : Heap} {w0 : World} {p : Pack} {E : List Nat} (hE : ∀ i, H0.dom i -> i ∈ E) (hok : V0 p E (VJ p σ) = true) (hc : DV (BBP p σ)) (hm0 : Moved B0 ι0 H0 w0 B ι σ.H w) :
  ∃ B', Moved B0 ι0 H0 w0 B' ι (VJ p σ).st.H w /\ (∀ t v, VRel B ι σ.H.dom (σ.sl t) v -> VRel B' ι (VJ p σ).st.H.dom ((VJ p σ).st.sl t) v) /\ (∀ i o, (VJ p σ).st.H i = .live o -> ∃ o', σ.H i = .live o') /\
   (∀ b c, B b = some c -> B' b = some c) /\ ∀ i ∈ E, (VJ p σ).st.H.dom i := by
 simp only [V0, Bool.and_eq_true, List.all_eq_true] at hok
 obtain ⟨⟨⟨o1, o2⟩, o3⟩, o4⟩ := hok
 obtain ⟨c1, c2⟩ := BR hc
 obtain ⟨B', hk, hF⟩ := WI p.fz hm0.heap
 have hm := hm0.trans hk
 have hcell : ∀ i ∈ p.ids, AUC (λ i => p.ids.contains i) (mS (PP σ.H p.fz) (EK σ.H p.fz i)) = true := λ i hi => o2 _ (List.mem_map.2 ⟨i, hi, rfl⟩)
 have hH : ∀ i, (VJ p σ).st.H i = if p.ids.contains i then mS (PP σ.H p.fz) (EK σ.H p.fz i) else .none := λ i => by
  show (XX _ i).getD .none = _
  rw [VJ, APU]; split <;> rfl
 have hdom : ∀ i, p.ids.contains i = true -> (VJ p σ).st.H.dom i /\ ι i = ι i := λ i hi => by
  refine ⟨?_, rfl⟩
  unfold Heap.dom
  rw [hH, if_pos hi]
  have := hcell i (by simpa using hi)
  intro he; rw [he] at this; cases this
 have live : ∀ i o, (VJ p σ).st.H i = .live o -> ∃ o', i ∈ p.ids /\ EK σ.H p.fz i = .live o' /\ mS (PP σ.H p.fz) (.live o') = .live o := λ i o hi => by
  rw [hH] at hi
  split at hi
  ·rename_i hc
   cases hq : EK σ.H p.fz i with
   | live o' => rw [hq] at hi; exact ⟨o', by simpa using hc, rfl, hi⟩
   | none => rw [hq] at hi; cases hi
   | dead => rw [hq] at hi; cases hi
  ·cases hi
 refine ⟨B', ?_, λ t v hv => ?_, λ i o hi => by obtain ⟨o', _, ho, _⟩ := live i o hi; exact ⟨o', Ji p.fz ho⟩, hF.1, λ i hi => (hdom i (o3 i hi)).1⟩
 ·refine ⟨hm.bm, hm.bn, λ i hi => ?_, ⟨λ i o hi => ?_, λ i j o o' hi hj hij => ?_, λ i o hi => ?_, hm.heap.imm⟩, λ i o hi => ?_, hm.frame, hm.size, hm.calm⟩
  ·exact ⟨(hdom i (o3 i (hE i hi))).1, (hm.im i hi).2⟩
  ·obtain ⟨o', hid, ho, he⟩ := live i o hi
   have h1 := hm0.heap.obj _ _ (Ji p.fz ho)
   generalize w.heap[(ι i).b]? = q at h1 ⊢
   have hok := hcell i hid
   rw [ho] at hok
   cases o' with
   | box es =>
    simp only [mS, HCell.live.injEq] at he
    subst he
    have h2 := dB c2 i hid
    rw [ho] at h2
    cases h1 with
    | box hsz hr =>
     refine .box (by rw [bM]; exact hsz) λ j x z hx hz => ?_
     exact VRel.keepL hdom _ (by simpa only [AUC, mS, okO] using hok) j x z hx (Kk hF es _ h2 hr j x z hx hz)
   | row k n g =>
    simp only [mS, HCell.live.injEq] at he
    subst he
    cases h1 with
    | row a b cc d => exact .row a b cc λ i j x y hi hx hy => (d i j x y hi hx hy).mono hF.1
   | imap q z hs g st pend =>
    simp only [mS, HCell.live.injEq] at he
    subst he
    cases h1 with
    | imap a => exact .imap (a.mono hF.1)
  ·obtain ⟨_, _, h1, _⟩ := live i o hi
   obtain ⟨_, _, h2, _⟩ := live j o' hj
   exact hm.heap.inj _ _ _ _ h1 h2 hij
  ·obtain ⟨_, _, h1, _⟩ := live i o hi
   exact hm.heap.sep _ _ h1
  ·obtain ⟨_, _, h1, _⟩ := live i o hi
   exact hm.own _ _ h1
 ·rcases mA (λ t => frV (PP σ.H p.fz) (σ.sl t)) p.sl t with h | ⟨h1, h2⟩
  ·show VRel _ _ _ (LU _ t) _
   rw [VJ, h]; exact .any
  ·show VRel _ _ _ (LU _ t) _
   rw [VJ, h2]
   exact VRel.keep hdom _ _ (o1 _ (List.mem_map.2 ⟨t, h1, rfl⟩)) (F3 hF _ _ (dB c1 t h1) hv)
theorem Rel.pack {p : Pack} {E : List Nat} {a : Act} (hE : ∀ i, c.H0.dom i -> i ∈ E) (hok : V0 p E (VJ p σ) = true) (hc : DV (BBP p σ)) (hR : Rel c B ι σ a w) : ∃ B', Rel c B' ι (VJ p σ).st a w := by
 obtain ⟨B', h1, h2, h3, _⟩ := Moved.pack hE hok hc hR.mv
 obtain ⟨Ds, d1, d0, d2, d3⟩ := hR.defers
 refine ⟨B', λ t => h2 t _ (hR.slots t), hR.size, ⟨Ds, d1, d0, d2, λ D hD => ⟨(d3 D hD).1, (d3 D hD).2.here, λ i o hi => ?_⟩⟩, h1⟩
 obtain ⟨o', ho⟩ := h3 i o hi
 exact (d3 D hD).2.sep _ _ ho
theorem CodeE.noGoto {x : Code} (h : CodeE P c x (U5 Q) σ) : CodeE P c (.scope x) Q σ := by
 intro B ι a w hR
 refine pN (Code.wpIn_mono (λ e a w hq => ?_) (h B ι a w hR))
 obtain ⟨B', ι', σ', hq, hR'⟩ := hq
 cases e with
 | goto l => exact hq.elim
 | _ => exact ⟨B', ι', σ', hq, hR'⟩
theorem BCY {l : List Prop} {K K' : Prop} (hK : K -> K') (h : R8 l K) : R8 l K' := by
 cases l with
 | nil => exact hK h
 | cons => exact ⟨h.1, hK h.2⟩
theorem vX {Γ : FuncId -> Option Spec} {mt : Bool} {base n : Nat} {ops : Array Oper} {draw : Bool} {K K' : AState -> Prop} (hK : ∀ σ, K σ -> K' σ) (h : aN P Γ mt base n ops draw σ K) : aN P Γ mt base n ops draw σ K' := by
 unfold aN at *
 split at h
 ·split at h
  ·rename_i hc; rw [if_pos hc]; exact BCY (hK _) h
  ·exact h.elim
 ·exact h
end Go.Sym

namespace Go.Sym
variable {P : Program} {B B' : De} {ι ι' : Nat -> Pl} {H H' : Heap} {D D' : Nat -> Prop} {w w' : World} {c : Ctx} {σ σ' : AState}
structure AnnI where
 base : Nat -> Nat
 mt : Nat -> Bool := λ _ => false
 Γ : FuncId -> Option Spec
 loops : Nat -> Option pC := λ _ => none
 /-- the same, by the measures of the loops around, from the inmost one -/
 inner : List Nat -> Nat -> Option pC := λ _ _ => none
 pack : Nat -> Option Pack := λ _ => none
 E : List Nat
 n : Nat
def AnnI.loopAt (A : AnnI) (gs : List Nat) (k : Nat) : Option pC := match A.inner gs k with
 | some L => some L
 | none => A.loops k
structure Susp where
 c : Ctx
 sl1 : Nat -> AVal
 tmps : Array Value
 Ds : List Nat
 l : Nat
 lp : LoopState -> Option Code -> Loop
def Qa : Exit -> Code
 | .exit id => .exit id
 | _ => .ret
def stOf : Option Exit -> LoopState
 | none => .ready
 | some _ => .done
structure BaseI (S : Susp) (m : Option Exit) (B : De) (ι : Nat -> Pl) (H : Heap) (w : World) : Prop where
 mv : Moved S.c.B0 S.c.ι0 S.c.H0 S.c.w0 B ι H w
 susp : ∀ t, VRel B ι H.dom (S.sl1 t) (S.tmps.getD t undef)
 marks : ∀ D ∈ S.Ds, S.c.w0.heap.size <= D /\ Quiet D (.deferred (some [])) ι H w
 lge : S.c.w0.heap.size <= S.l
 lp : Quiet S.l (.loop (S.lp (stOf m) (m.map Qa))) ι H w
theorem BaseI.moved {S : Susp} {m : Option Exit} (h : BaseI S m B ι H w) (hm : Moved B ι H w B' ι' H' w') : BaseI S m B' ι' H' w' :=
 ⟨h.mv.trans hm, λ t => hm.vrel (h.susp t), λ D hD => ⟨(h.marks D hD).1, (h.marks D hD).2.moved hm⟩, h.lge, h.lp.moved hm⟩
theorem BaseI.put {S : Susp} {m m' : Option Exit} (h : BaseI S m B ι H w) (h' : w' = w.putObj S.l (.loop (S.lp (stOf m') (m'.map Qa)))) : BaseI S m' B ι H w' := by
 subst h'
 refine ⟨h.mv.put h.lp (λ _ _ _ h => by cases h) h.lge _, h.susp, λ D hD => ⟨(h.marks D hD).1, (h.marks D hD).2.put_other λ he => ?_⟩, h.lge, h.lp.put_same _⟩
 have h1 := (h.marks D hD).2.here
 rw [<- he, h.lp.here] at h1
 cases h1
structure RelI (S : Susp) (n : Nat) (m : Option Exit) (B : De) (ι : Nat -> Pl) (σ : AState) (a : Act) (w : World) : Prop where
 slots : ∀ t, VRel B ι σ.H.dom (σ.sl t) (a.tmps.getD t undef)
 size : a.tmps.size = n
 nodef : a.defers = []
 base : BaseI S m B ι σ.H w
theorem RelI.tmp {S : Susp} {n : Nat} {m : Option Exit} {a : Act} (h : RelI S n m B ι σ a w) : Rel ⟨B, ι, σ.H, w, n, none, false⟩ B ι σ a w :=
 ⟨h.slots, h.size, ⟨[], h.nodef, λ _ => rfl, List.nodup_nil, λ D hD => by cases hD⟩, Moved.refl h.base.mv.heap⟩
theorem RelI.of {S : Susp} {n : Nat} {m : Option Exit} {a a' : Act} (h : RelI S n m B ι σ a w) (h' : Rel ⟨B, ι, σ.H, w, n, none, false⟩ B' ι' σ' a' w') : RelI S n m B' ι' σ' a' w' := by
 obtain ⟨Ds, h1, h2, _⟩ := h'.defers
 rw [h2 rfl] at h1
 exact ⟨h'.slots, h'.size, h1, h.base.moved h'.mv⟩
def CodeI (P : Program) (S : Susp) (n : Nat) (code : Code) (Q : Exit -> Option Exit -> AState -> Prop) (m : Option Exit) (σ : AState) : Prop :=
 ∀ B ι a w, RelI S n m B ι σ a w -> code.wpIn (R9 none) 0 P (λ e a' w' => ∃ B' ι' m' σ', Q e m' σ' /\ RelI S n m' B' ι' σ' a' w') a w
section
variable {S : Susp} {n : Nat} {m : Option Exit} {Q Q' : Exit -> Option Exit -> AState -> Prop}
theorem CodeI.mono {code : Code} (h : CodeI P S n code Q m σ) (hq : ∀ e m σ, Q e m σ -> Q' e m σ) : CodeI P S n code Q' m σ :=
 λ B ι a w hR => wpIn_mono (h B ι a w hR) λ _ _ _ ⟨B', ι', m', σ', hQ, hR'⟩ => ⟨B', ι', m', σ', hq _ _ _ hQ, hR'⟩
theorem CodeI.of {code : Code} {Q1 : Exit -> AState -> Prop} (h : ∀ c : Ctx, c.n = n -> c.rd = none -> c.H0 = σ.H -> CodeE P c code Q1 σ) (hq : ∀ e σ', Q1 e σ' -> Q e m σ') : CodeI P S n code Q m σ :=
 λ B ι a w hR => wpIn_mono (h ⟨B, ι, σ.H, w, n, none, false⟩ rfl rfl rfl B ι a w hR.tmp) λ _ _ _ ⟨B', ι', σ', hQ, hR'⟩ => ⟨B', ι', m, σ', hq _ _ hQ, hR.of hR'⟩
def AQL (K : Option Exit -> AState -> Prop) (Q : Exit -> Option Exit -> AState -> Prop) : Exit -> Option Exit -> AState -> Prop
 | .normal, m, σ => K m σ
 | e, m, σ => Q e m σ
def AVL (id : Nat) (Q : Exit -> Option Exit -> AState -> Prop) : Exit -> Option Exit -> AState -> Prop
 | .exit id', m, σ => if id' = id then Q .normal m σ else Q (.exit id') m σ
 | e, m, σ => Q e m σ
theorem CodeI.seq {x y : Code} (h : CodeI P S n x (AQL (CodeI P S n y Q) Q) m σ) : CodeI P S n (.seq x y) Q m σ := by
 intro B ι a w hR
 refine wpIn_seq (wpIn_mono (h B ι a w hR) λ e a w hq => ?_)
 obtain ⟨B', ι', m', σ', hq, hR'⟩ := hq
 cases e with
 | normal => exact hq B' ι' a w hR'
 | _ => exact ⟨B', ι', m', σ', hq, hR'⟩
theorem CodeI.cond {x : Operand} {t e : Code} {b : Bool} (hx : BP σ.sl x = .bool b) (ht : b = true -> CodeI P S n t Q m σ) (he : b = false -> CodeI P S n e Q m σ) : CodeI P S n (.cond x t e) Q m σ := by
 intro B ι a w hR
 have hv := WH hR.slots x
 rw [hx] at hv
 exact wpIn_cond_split hv.d_inv.v_inv (λ h => ht h B ι a w hR) (λ h => he h B ι a w hR)
theorem CodeI.block {id : Nat} {x : Code} (h : CodeI P S n x (AVL id Q) m σ) : CodeI P S n (.block id x) Q m σ := by
 intro B ι a w hR
 refine wpIn_block (wpIn_mono (h B ι a w hR) λ e a w hq => ?_)
 obtain ⟨B', ι', m', σ', hq, hR'⟩ := hq
 cases e with
 | exit id' =>
  simp only [AVL] at hq
  simp only [Exit.inBlock]
  split
  ·rename_i he; rw [if_pos he] at hq; exact ⟨B', ι', m', σ', hq, hR'⟩
  ·rename_i he; rw [if_neg he] at hq; exact ⟨B', ι', m', σ', hq, hR'⟩
 | _ => exact ⟨B', ι', m', σ', hq, hR'⟩
theorem CodeI.loop {x : Code} (I : Nat -> AState -> Prop) (k : Nat) (h0 : I k σ) (round : ∀ k σ, I k σ -> CodeI P S n x (AQL (λ m' σ' => m' = none /\ ∃ j, j < k /\ I j σ') Q) none σ) : CodeI P S n (.loop x) Q none σ := by
 intro B ι a w hR
 refine wpIn_loop_ghost (λ k a w => ∃ B ι σ, I k σ /\ RelI S n none B ι σ a w) k ⟨B, ι, σ, h0, hR⟩ ?_
 rintro k a w ⟨B, ι, σ, hI, hR⟩
 refine wpIn_mono (round k σ hI B ι a w hR) λ e a w hq => ?_
 obtain ⟨B', ι', m', σ', hq, hR'⟩ := hq
 cases e with
 | normal => obtain ⟨rfl, j, hj, hI⟩ := hq; exact ⟨j, hj, B', ι', σ', hI, hR'⟩
 | _ => exact ⟨B', ι', m', σ', hq, hR'⟩
variable {E : List Nat}
theorem BaseI.keep {p : Nat -> Bool} (hS : ∀ t, Mb p (S.sl1 t) = true) (h : BaseI S m B ι H w) (hB : ∀ b c, B b = some c -> B' b = some c) (hm : Moved S.c.B0 S.c.ι0 S.c.H0 S.c.w0 B' ι' H' w) (hp : ∀ i, p i = true -> H'.dom i /\ ι' i = ι i)
  (hl : ∀ i o, H' i = .live o -> ∃ j o', (ι' i).b = (ι j).b /\ H j = .live o') : BaseI S m B' ι' H' w := by
 have q : ∀ {b x}, Quiet b x ι H w -> Quiet b x ι' H' w := λ hq => ⟨hq.here, λ i o hi => by obtain ⟨j, o', h1, h2⟩ := hl i o hi; rw [h1]; exact hq.sep _ _ h2⟩
 exact ⟨hm, λ t => VRel.keep (ι := ι) (D := H.dom) hp _ _ (hS t) ((h.susp t).mono hB λ i hi => ⟨hi, rfl⟩), λ D hD => ⟨(h.marks D hD).1, q (h.marks D hD).2⟩, h.lge, q h.lp⟩
theorem RelI.subF {fz : List Nat} {l : List (Nat × Nat)} {s : ST} {a : Act} (hE : ∀ i, S.c.H0.dom i -> i ∈ E) (hS : ∀ t, Mb (λ i => E.contains i) (S.sl1 t) = true) (h : ET (XN E fz l s σ)) (hR : RelI S n m B ι σ a w) :
  ∃ B', RelI S n m B' (λ i => ι (KZ l i)) s.st a w := by
 obtain ⟨B', h1, h2, h3, h4, h5⟩ := Moved.subF hE h hR.base.mv
 exact ⟨B', λ t => h2 t _ (hR.slots t), hR.size, hR.nodef, hR.base.keep hS h4 h1 (λ i hi => by
  obtain ⟨h6, h7⟩ := h5 i (by simpa using hi)
  exact ⟨h6, by show ι (KZ l i) = ι i; rw [h7]⟩) λ i o hi => by obtain ⟨o', ho⟩ := h3 i o hi; exact ⟨_, o', rfl, ho⟩⟩
theorem RelI.pack {p : Pack} {a : Act} (hE : ∀ i, S.c.H0.dom i -> i ∈ E) (hS : ∀ t, Mb (λ i => E.contains i) (S.sl1 t) = true) (hok : V0 p E (VJ p σ) = true) (hc : DV (BBP p σ)) (hR : RelI S n m B ι σ a w) :
  ∃ B', RelI S n m B' ι (VJ p σ).st a w := by
 obtain ⟨B', h1, h2, h3, h4, h5⟩ := Moved.pack hE hok hc hR.base.mv
 exact ⟨B', λ t => h2 t _ (hR.slots t), hR.size, hR.nodef, hR.base.keep hS h4 h1 (λ i hi => ⟨h5 i (by simpa using hi), rfl⟩) λ i o hi => by obtain ⟨o', ho⟩ := h3 i o hi; exact ⟨i, o', rfl, ho⟩⟩
abbrev YK := List AVal -> Heap -> (Heap -> Prop) -> (Exit -> Heap -> Prop) -> Prop
def oV (P : Program) (S : Susp) (yk : YK) : Prop := ∀ (as : List AVal) (H : Heap) (kn : Heap -> Prop) (ks : Exit -> Heap -> Prop), yk as H kn ks -> ∀ (B : De) (ι : Nat -> Pl) (w : World) (vs : Array Value), Pf B ι H.dom as vs -> BaseI S none B ι H w ->
 ∃ f tmps assign body, (Instr.yield S.l vs).run P w = .ok (.round S.l f tmps assign body) w /\ RoundIn (R9 none) 0 P S.l f tmps assign body w λ e w' =>
  ∃ B' ι' H', (∀ a y, VRel B ι H.dom a y -> VRel B' ι' H'.dom a y) /\ ((e = .returned (.bool true) /\ kn H' /\ BaseI S none B' ι' H' w') ∨ ∃ x, e = .returned (.bool false) /\ ks x H' /\ BaseI S (some x) B' ι' H' w')
def ADN (ops : Array Oper) (sl : Nat -> AVal) (j : Nat) (want : Bool) : Option Bool := match (ops[j]?).bind (·.dst) with
 | some t => match sl t with
  | .d (.v (.bool b)) => some (if want then b else !b)
  | .d (.v (.tuple _)) => some false
  | _ => none
 | none => none
theorem AOQ {ops : Array Oper} {sl : Nat -> AVal} {o : Oper} {j : Nat} {want g : Bool} {a : Act} (hg : o.guard = some (j, want)) (h : ADN ops sl j want = some g) (hs : ∀ t, VRel B ι D (sl t) (a.tmps.getD t undef)) :
  Region.wanted o (yielded ops a.tmps) = g := by
 unfold ADN at h
 simp only [Region.wanted, hg]
 split at h
 ·rename_i t ht
  have hv := hs t
  have hget : a.tmps.getD t undef = (a.tmps[t]?).getD undef := by simp
  split at h
  ·rename_i b hb
   cases h
   rw [hb] at hv
   rw [(AAS (a := a) ht).1 _ hv.d_inv.v_inv]
   cases want <;> cases b <;> rfl
  ·rename_i x hb
   cases h
   rw [hb] at hv
   have h1 := hv.d_inv.v_inv
   have : yielded ops a.tmps j = none := by
    simp only [yielded, ht, Option.bind_some]
    rw [hget] at h1
    cases hq : a.tmps[t]? with
    | none => rfl
    | some y => rw [hq] at h1; simp at h1; subst h1; rfl
   rw [this]; rfl
  ·cases h
 ·cases h
def ASJ (P : Program) (A : AnnI) (l : Nat) (yk : YK) (mt : Bool) (r : Nat) (o : Oper) (K : Option Exit -> AState -> Prop) (m : Option Exit) (σ : AState) : Prop := match o.op with
 | .call ⟨.value f, args, _⟩ => match BP σ.sl f with
  | .fn (.yield l') [] [] => match m with
   | none => R8 [l' = l] (yk (args.toList.map (BP σ.sl)) σ.H (λ H' => K none ⟨Ww σ.sl o.dst (.bool true), H'⟩) (λ e H' => K (some e) ⟨Ww σ.sl o.dst (.bool false), H'⟩))
   | some _ => False
  | fv => match AQR A.Γ r fv (args.toList.map (BP σ.sl)) σ.H with
   | some x => if aM σ.H r then R8 x.pre (K m (σ.app o.dst x.val x.upd)) else False
   | none => False
 | op => match opA P mt r (BP σ.sl) σ.H op with
  | some e => if isNone (σ.H r) then R8 e.pre (K m (σ.app o.dst e.val e.upd)) else False
  | none => False
def refG (ops : Array Oper) (sl : Nat -> AVal) (j : Nat) (b : Bool) : Nat -> AVal := match (ops[j]?).bind (·.dst) with
 | some t => match sl t with
  | .d (.v (.bool _)) => Ww sl (some t) (.bool b)
  | _ => sl
 | none => sl
theorem BEQ {ops : Array Oper} {sl : Nat -> AVal} {j : Nat} {want g : Bool} (h : ADN ops sl j want = some g) (t' : Nat) {v : Value} (hv : VRel B ι D (sl t') v) : VRel B ι D (refG ops sl j (if g then want else !want) t') v := by
 unfold ADN at h
 unfold refG
 split at h
 ·rename_i t ht
  simp only [ht]
  split at h
  ·rename_i b hb
   cases h
   simp only [hb]
   have e : (if (if want = true then b else !b) = true then want else !want) = b := by cases want <;> cases b <;> rfl
   rw [e]
   by_cases he : t' = t
   ·subst he
    rw [hb] at hv
    simpa [Ww] using hv
   ·simpa [Ww, he] using hv
  ·rename_i x hb
   simp only [hb]; exact hv
  ·cases h
 ·cases h
theorem BAO {b : Bool} {p q : Prop} : (bif b then p else q) = ((b = true -> p) /\ (b = false -> q)) := by cases b <;> simp
def runK (P : Program) (A : AnnI) (l : Nat) (yk : YK) (mt : Bool) (base : Nat) (ops : Array Oper) (K : Option Exit -> AState -> Prop) : List Oper -> Nat -> Option Exit -> AState -> Prop
 | [], _, m, σ => K m σ
 | o :: rest, k, m, σ => if ASP A.n o then match o.guard with
   | none => ASJ P A l yk mt (base + 16 * k) o (runK P A l yk mt base ops K rest (k + 1)) m σ
   | some (j, want) => match ADN ops σ.sl j want with
    | some g => bif g then ASJ P A l yk mt (base + 16 * k) o (runK P A l yk mt base ops K rest (k + 1)) m ⟨refG ops σ.sl j want, σ.H⟩ else runK P A l yk mt base ops K rest (k + 1) m (AState.app ⟨refG ops σ.sl j (!want), σ.H⟩ o.dst (.d (.v undef)) [])
    | none => False
  else False
theorem StepO.bare {ops : Array Oper} {mt : Bool} {r : Nat} {o : Oper} {val : AVal} {upd : List (Nat × HCell)} {touch : List Nat} (h : StepO P mt ops r σ { o with guard := none } val upd touch) {a : Act} (hR : RelI S n m B ι σ a w)
  (hdst : ∀ d, o.dst = some d -> d < n) {K : Act -> World -> Prop} {Q : Exit -> Act -> World -> Prop} (hK : ∀ B' ι' a' w', RelI S n m B' ι' (σ.app o.dst val upd) a' w' -> K a' w') : o.wpIn (R9 none) 0 P a w K Q := by
 have := h.sound (Q := Q) hR.tmp hdst (K := K) λ B' ι' a' w' hR' => hK B' ι' a' w' (hR.of hR')
 simp only [Region.wanted, if_true] at this
 exact this
theorem ASG {A : AnnI} (hΓ : GOk P A.Γ) {yk : YK} (hy : oV P S yk) {mt : Bool} {r : Nat} {o : Oper} {K : Option Exit -> AState -> Prop} (h : ASJ P A S.l yk mt r o K m σ) (hdst : ∀ d, o.dst = some d -> d < n)
  {a : Act} (hR : RelI S n m B ι σ a w) {KW : Act -> World -> Prop} {Q : Exit -> Act -> World -> Prop} (hK : ∀ B' ι' m' σ' a' w', K m' σ' -> RelI S n m' B' ι' σ' a' w' -> KW a' w') : o.wpIn (R9 none) 0 P a w KW Q := by
 unfold ASJ at h
 split at h
 ·rename_i f args ats ho
  split at h
  ·rename_i l' hf
   split at h
   ·obtain ⟨h1, h2⟩ := UT h
    have h1 : l' = S.l := h1
    subst h1
    have hfv := WH hR.slots f
    rw [hf] at hfv
    have hfe : a.eval f = .func (.yield S.l) #[] #[] := by
     generalize a.eval f = v at hfv
     cases hfv with
     | fn hx hy h1 h2 =>
      rename_i xs ys
      have e1 : xs = #[] := by simpa using hx
      have e2 : ys = #[] := by simpa using hy
      subst e1; subst e2; rfl
    have hA : Pf B ι σ.H.dom (args.toList.map (BP σ.sl)) (args.map a.eval) := ⟨by simp, λ j x y hx hy => by
     obtain ⟨z, hz, rfl⟩ := pH hx
     rw [Array.getElem?_toList] at hz
     simp [hz] at hy
     subst hy; exact WH hR.slots z⟩
    obtain ⟨fn, tmps, assign, body, hyr, hround⟩ := hy _ _ _ _ h2 B ι w _ hA hR.base
    refine ⟨Pn o a _, ?_⟩
    rw [Oper.semAt_eq _ _ _ (by rw [ho]; exact λ _ h => by cases h)]
    have hrun : (execOp a.eval o).run P w = .ok (.round S.l fn tmps assign body) w := by
     simp only [execOp, ho, resolve, hfe, Deferred.ofValue, invoke, Sem.run_bind, Sem.run_pure, Result.andThen_ok]
     simpa using hyr
    rw [hrun, Oper.uponIn_round]
    refine ⟨(λ h => by cases h), RoundIn.mono hround λ e w' hh => ?_⟩
    obtain ⟨B', ι', H', ht, hh⟩ := hh
    have put : ∀ b m', BaseI S m' B' ι' H' w' -> RelI S n m' B' ι' ⟨Ww σ.sl o.dst (.bool b), H'⟩ (a.put o.dst (.bool b)) w' := λ b m' hb =>
     ⟨λ t => oZ (λ t => ht _ _ (hR.slots t)) (λ d hd => by rw [hR.size]; exact hdst d hd) (.d (.v _)) t, by cases o.dst <;> simp [Act.put, hR.size], by cases o.dst <;> simp [Act.put, hR.nodef], hb⟩
    rcases hh with ⟨rfl, h3, h4⟩ | ⟨x, rfl, h3, h4⟩
    ·exact hK _ _ _ _ _ _ h3 (put true _ h4)
    ·exact hK _ _ _ _ _ _ h3 (put false _ h4)
   ·exact h.elim
  ·split at h
   ·rename_i x hx
    split at h
    ·rename_i hfr
     obtain ⟨h1, h2⟩ := UT h
     obtain ⟨g, first, caps, he, hc⟩ := rW hΓ hx
     have mp : ∀ (l : List Nat), (l.map λ i => (i, σ.H i)).map (·.1) = l := λ l => by
      induction l with
      | nil => rfl
      | cons a l ih => simp only [List.map_cons, ih]
     exact StepO.bare (ops := #[]) (mt := mt) (.call (f := f) (args := args) (ats := ats) rfl ho he (hc h1) (sW _ _) (fK hfr)) hR hdst λ B' ι' a' w' hR' => hK _ _ _ _ _ _ h2 hR'
    ·exact h.elim
   ·exact h.elim
 ·split at h
  ·rename_i e he
   split at h
   ·rename_i hfr
    obtain ⟨h1, h2⟩ := UT h
    exact StepO.bare (ops := #[]) (mt := mt) (.op rfl he h1 (Pq hfr)) hR hdst λ B' ι' a' w' hR' => hK _ _ _ _ _ _ h2 hR'
   ·exact h.elim
  ·exact h.elim
theorem uP {A : AnnI} (hΓ : GOk P A.Γ) {yk : YK} (hy : oV P S yk) (hn : A.n = n) {mt : Bool} {base : Nat} {ops : Array Oper} {K : Option Exit -> AState -> Prop} (hK : ∀ m σ, K m σ -> Q .normal m σ) : ∀ (l : List Oper) (k : Nat) (m : Option Exit) (σ : AState), runK P A S.l yk mt base ops K l k m σ ->
  ∀ B ι a w, RelI S n m B ι σ a w -> wpListIn (R9 none) 0 P ops (λ e a' w' => ∃ B' ι' m' σ', Q e m' σ' /\ RelI S n m' B' ι' σ' a' w') l a w
 | [], _, m, σ, h, B, ι, a, w, hR => ⟨B, ι, m, σ, hK _ _ h, hR⟩
 | o :: l, k, m, σ, h, B, ι, a, w, hR => by
  simp only [runK] at h
  split at h
  ·rename_i hd
   have hdst : ∀ d, o.dst = some d -> d < n := λ d h => hn ▸ uY hd d h
   have go : ∀ σ, RelI S n m B ι σ a w -> ASJ P A S.l yk mt (base + 16 * k) o (runK P A S.l yk mt base ops K l (k + 1)) m σ -> o.wpIn (R9 none) 0 P a w (wpListIn (R9 none) 0 P ops (λ e a' w' => ∃ B' ι' m' σ', Q e m' σ' /\ RelI S n m' B' ι' σ' a' w') l) (λ e a' w' => ∃ B' ι' m' σ', Q e m' σ' /\ RelI S n m' B' ι' σ' a' w') :=
    λ σ hR h => ASG hΓ hy h hdst hR λ B' ι' m' σ' a' w' h1 h2 => uP hΓ hy hn hK l (k + 1) m' σ' h1 B' ι' a' w' h2
   unfold wpListIn
   split at h
   ·rename_i hg
    simp only [Region.wanted, hg, if_true]
    exact go σ hR h
   ·rename_i j want hg
    split at h
    ·rename_i g hgd
     rw [AOQ hg hgd hR.slots]
     have hR2 : RelI S n m B ι ⟨refG ops σ.sl j (if g then want else !want), σ.H⟩ a w := ⟨λ t => BEQ hgd t (hR.slots t), hR.size, hR.nodef, hR.base⟩
     cases g with
     | true => simp only [if_true]; exact go _ hR2 h
     | false =>
      simp only [Bool.false_eq_true, if_false]
      refine ⟨Pn o a _, uP hΓ hy hn hK l (k + 1) m _ h B ι _ w ?_⟩
      exact ⟨λ t => oZ hR2.slots (λ d hd => by rw [hR.size]; exact hdst d hd) (.d (.v _)) t, by cases o.dst <;> simp [Act.put, hR.size], by cases o.dst <;> simp [Act.put, hR.nodef], hR.base⟩
    ·exact h.elim
  ·exact h.elim
def vcI (P : Program) (A : AnnI) (l : Nat) (yk : YK) : Code -> List Nat -> (Exit -> Option Exit -> AState -> Prop) -> Option Exit -> AState -> Prop
 | .skip, _, Q, m, σ => Q .normal m σ
 | .label _, _, Q, m, σ => Q .normal m σ
 | .exit id, _, Q, m, σ => Q (.exit id) m σ
 | .ret, _, Q, m, σ => Q .ret m σ
 | .seq a b, gs, Q, m, σ => vcI P A l yk a gs (AQL (vcI P A l yk b gs Q) Q) m σ
 | .cond x t e, gs, Q, m, σ => match BP σ.sl x with
  | .d (.v (.bool b)) => bif b then vcI P A l yk t gs Q m σ else vcI P A l yk e gs Q m σ
  | _ => False
 | .block id b, gs, Q, m, σ => vcI P A l yk b gs (AVL id Q) m σ
 | .loop b, gs, Q, m, σ => match m, A.loopAt gs (Gw b) with
  | none, some L => YS A.E (·.at1) σ (λ s a => s.inv a) L /\
    allS (λ s => ∀ a, s.inv a -> vcI P A l yk b (s.meas a :: gs) (AQL (λ m' σ' => match m' with
     | none => YS A.E (·.at2) σ' (λ s' a' => s'.inv a' /\ s'.meas a' < s.meas a) L
     | some _ => False) Q) none (s.T a).st) L
  | _, _ => False
 | .region id ops draw, _, Q, m, σ => match draw with
  | true => aN P A.Γ (A.mt id) (A.base id) A.n ops true σ λ σ' => pY (A.pack id) A.E σ' (Q .normal m)
  | false => runK P A l yk (A.mt id) (A.base id) ops (λ m' σ' => pY (A.pack id) A.E σ' (Q .normal m')) ops.toList 0 m σ
 | _, _, _, _, _ => False
theorem BDB {A : AnnI} (hΓ : GOk P A.Γ) (hm : P.follows .mixedOrders = true) {yk : YK} (hy : oV P S yk) (hn : A.n = n) (hE : ∀ i, S.c.H0.dom i -> i ∈ A.E) (hS : ∀ t, Mb (λ i => A.E.contains i) (S.sl1 t) = true) :
  ∀ (code : Code) (gs : List Nat) (Q : Exit -> Option Exit -> AState -> Prop) (m : Option Exit) (σ : AState), vcI P A S.l yk code gs Q m σ -> CodeI P S n code Q m σ := by
 have pk : ∀ {id : Nat} {Q : Exit -> Option Exit -> AState -> Prop} {m : Option Exit} {σ : AState} {B : De} {ι : Nat -> Pl} {a : Act} {w : World}, pY (A.pack id) A.E σ (Q .normal m) -> RelI S n m B ι σ a w -> ∃ B' ι' m' σ', Q .normal m' σ' /\ RelI S n m' B' ι' σ' a w := λ {id Q m σ B ι a w} h hR => by
  unfold pY at h
  split at h
  ·exact ⟨B, ι, m, σ, h, hR⟩
  ·split at h
   ·rename_i p hp hok
    obtain ⟨h1, h2⟩ := UT h
    obtain ⟨B', hR'⟩ := hR.pack hE hS hok h1
    exact ⟨B', ι, m, _, h2, hR'⟩
   ·exact h.elim
 intro code
 induction code with
 | skip => intro gs Q m σ h B ι a w hR; exact wpIn_skip ⟨B, ι, m, σ, h, hR⟩
 | label l => intro gs Q m σ h B ι a w hR; exact wpIn_label ⟨B, ι, m, σ, h, hR⟩
 | exit id => intro gs Q m σ h B ι a w hR; exact wpIn_exit ⟨B, ι, m, σ, h, hR⟩
 | ret => intro gs Q m σ h B ι a w hR; exact wpIn_ret ⟨B, ι, m, σ, h, hR⟩
 | seq a b iha ihb =>
  intro gs Q m σ h
  refine .seq (CodeI.mono (iha gs _ m σ h) λ e m σ' hq => ?_)
  cases e with
  | normal => exact ihb gs Q m σ' hq
  | _ => exact hq
 | cond x t e iht ihe =>
  intro gs Q m σ h
  simp only [vcI] at h
  split at h
  ·rename_i b hb
   rw [BAO] at h; exact .cond hb (λ hb => iht gs Q m σ (h.1 hb)) λ hb => ihe gs Q m σ (h.2 hb)
  ·exact h.elim
 | block id b ih => intro gs Q m σ h; exact .block (ih gs _ m σ h)
 | loop b ih =>
  intro gs Q m σ h
  simp only [vcI] at h
  split at h
  ·rename_i L hL
   obtain ⟨h0, h3⟩ := h
   obtain ⟨s, hs, a, h1, h2⟩ := QP h0
   refine .loop (λ k σ => ∃ l fz s a, s ∈ L /\ ET (XN A.E fz l (s.T a) σ) /\ s.inv a /\ s.meas a = k) (s.meas a) ⟨_, _, s, a, hs, h1, h2, rfl⟩ ?_
   rintro k σ' ⟨l, fz, s, a, hs, h4, h5, rfl⟩ B ι act w hR
   obtain ⟨B', hR'⟩ := hR.subF hE hS h4
   refine wpIn_mono (ih _ _ _ _ (Cy h3 s hs a h5) B' _ act w hR') λ e a' w' hq => ?_
   obtain ⟨B2, ι2, m2, σ2, hq, hR2⟩ := hq
   refine ⟨B2, ι2, m2, σ2, ?_, hR2⟩
   cases e with
   | normal =>
    simp only [AQL] at hq
    cases m2 with
    | none => obtain ⟨s', q0, a', q1, q2, q3⟩ := QP hq; exact ⟨rfl, s'.meas a', q3, _, _, s', a', q0, q1, q2, rfl⟩
    | some x => exact hq.elim
   | _ => exact hq
  ·exact h.elim
 | scope b ih => intro gs Q m σ h; exact h.elim
 | region id ops draw =>
  intro gs Q m σ h
  cases draw with
  | true =>
   simp only [vcI] at h
   intro B ι a w hR
   have h1 : CodeI P S n (.region id ops true) (λ e m' σ' => e = .normal /\ pY (A.pack id) A.E σ' (Q .normal m')) m σ :=
    CodeI.of (Q1 := λ e σ' => e = .normal /\ pY (A.pack id) A.E σ' (Q .normal m)) (λ c h1 h2 h3 => qJ (id := id) hΓ hm (by rw [h1, <- hn]; exact vX (λ σ' hk => ⟨rfl, hk⟩) h)) λ e σ' h => h
   refine wpIn_mono (h1 B ι a w hR) λ e a' w' hq => ?_
   obtain ⟨B', ι', m', σ', ⟨rfl, hp⟩, hR'⟩ := hq
   exact pk hp hR'
  | false =>
   simp only [vcI] at h
   intro B ι a w hR
   have := wpIn_region_list (id := id) (uP (Q := λ e m' σ' => e = .normal /\ pY (A.pack id) A.E σ' (Q .normal m')) hΓ hy hn (λ m σ h => ⟨rfl, h⟩) _ _ _ _ h B ι a w hR)
   refine wpIn_mono this λ e a' w' hq => ?_
   obtain ⟨B', ι', m', σ', ⟨rfl, hp⟩, hR'⟩ := hq
   exact pk hp hR'
 | rangeFunc => intro gs Q m σ h; exact h.elim
 | goto => intro gs Q m σ h; exact h.elim
 | refuse => intro gs Q m σ h; exact h.elim
end
end Go.Sym

namespace Go.Sym
variable {P : Program} {B B' : De} {ι ι' : Nat -> Pl} {H H' : Heap} {D : Nat -> Prop} {w w' : World} {c : Ctx} {σ : AState} {Q : Exit -> AState -> Prop}
theorem Rel.frz {a : Act} {id kk n n2 : Nat} {get : Nat -> DVal} {dst : Option Tmp} (h : Rel c B ι σ a w) (hid : σ.H id = .live (.row kk n2 get)) (hv : ∀ d, dst = some d -> σ.sl d = .own id kk 0 n) (hn : n = n2) :
  ∃ B', Rel c B' ι ⟨Ww σ.sl dst (.d (.list kk n get false)), FO σ.H id .dead⟩ a w := by
 obtain ⟨B', hm, hF⟩ := WI [id] h.mv.heap
 have hk : EK σ.H [id] = FO σ.H id .dead := by simp only [EK, hid]
 rw [hk] at hm
 have hf : PP σ.H [id] id = some (kk, n2, get) := by simp [PP, hid]
 refine ⟨B', ⟨λ t => ?_, h.size, ?_, h.mv.trans hm⟩⟩
 ·simp only [T7]
  split
  ·rename_i hd
   have := h.slots t
   rw [hv t hd] at this
   exact .d (AGW hF hf rfl (by omega) (λ j _ => by rw [Nat.zero_add]; exact Jj _) this)
  ·exact hm.vrel (h.slots t)
 ·obtain ⟨Ds, h1, h0, h2, h3⟩ := h.defers
  exact ⟨Ds, h1, h0, h2, λ D hD => ⟨(h3 D hD).1, (h3 D hD).2.moved hm⟩⟩
def gT (P : Program) (Γ : FuncId -> Option Spec) (mt : Bool) (ops : Array Oper) (r : Nat) (o : Oper) (σ : AState) (K : AState -> Prop) : Prop := match ADX P Γ mt ops r σ o with
 | some s => R8 (gZ σ.sl o ++ s.pre) (K (σ.app o.dst s.val s.upd))
 | none => False
def BMA (P : Program) (Γ : FuncId -> Option Spec) (ops : Array Oper) (r : Nat) (o : Oper) (σ : AState) (K : AState -> Prop) : Prop := match ADX P Γ true ops r σ o with
 | some s => match o.dst, s.val with
  | some d, .own id kk 0 n => match HF σ.H s.upd id with
   | .live (.row k2 n2 get) => if Nat.beq kk k2 then R8 (gZ σ.sl o ++ (s.pre ++ [n = n2])) (K ⟨Ww σ.sl (some d) (.d (.list kk n get false)), FO (HF σ.H s.upd) id .dead⟩) else False
   | _ => False
  | _, _ => False
 | none => False
def runM (P : Program) (Γ : FuncId -> Option Spec) (md : Nat -> Nat) (ops : Array Oper) (base n : Nat) (K : AState -> Prop) : List Oper -> Nat -> AState -> Prop
 | [], _, σ => K σ
 | o :: l, k, σ => if ASP n o && o.guard.isNone then match md k with
   | 0 => gT P Γ false ops (base + 16 * k) o σ (runM P Γ md ops base n K l (k + 1))
   | 1 => gT P Γ true ops (base + 16 * k) o σ (runM P Γ md ops base n K l (k + 1))
   | _ => BMA P Γ ops (base + 16 * k) o σ (runM P Γ md ops base n K l (k + 1))
  else False
theorem APT {Γ : FuncId -> Option Spec} (hΓ : GOk P Γ) {mt : Bool} {ops : Array Oper} {r : Nat} {o : Oper} {K : AState -> Prop} (h : gT P Γ mt ops r o σ K) : ∃ s : Stp, StepO P mt ops r σ o s.val s.upd s.touch /\ K (σ.app o.dst s.val s.upd) := by
 unfold gT at h
 split at h
 ·rename_i s hs
  obtain ⟨h1, h2⟩ := UT h
  obtain ⟨h3, h4⟩ := BR h1
  exact ⟨s, kL hΓ hs h4 λ _ => h3, h2⟩
 ·exact h.elim
theorem sM {Γ : FuncId -> Option Spec} (hΓ : GOk P Γ) {md : Nat -> Nat} {ops : Array Oper} {base : Nat} : ∀ (l : List Oper) (k : Nat) (σ : AState), runM P Γ md ops base c.n (Q .normal) l k σ -> ∀ B ι a w, Rel c B ι σ a w ->
  wpListIn (R9 c.rd) 0 P ops (λ e a' w' => ∃ B' ι' σ', Q e σ' /\ Rel c B' ι' σ' a' w') l a w
 | [], _, σ, h, B, ι, _, _, hR => ⟨B, ι, σ, h, hR⟩
 | o :: l, k, σ, h, B, ι, a, w, hR => by
  unfold runM at h
  split at h
  case isFalse => exact h.elim
  rename_i hc
  simp only [Bool.and_eq_true] at hc
  have hd := uY hc.1
  have hg : o.guard = none := by
   cases hq : o.guard with
   | none => rfl
   | some q => rw [hq] at hc; exact absurd hc.2 (by simp)
  have step : ∀ {mt : Bool}, gT P Γ mt ops (base + 16 * k) o σ (runM P Γ md ops base c.n (Q .normal) l (k + 1)) -> wpListIn (R9 c.rd) 0 P ops (λ e a' w' => ∃ B' ι' σ', Q e σ' /\ Rel c B' ι' σ' a' w') (o :: l) a w := λ h => by
   obtain ⟨s, h1, h2⟩ := APT hΓ h
   exact h1.sound hR hd λ B' ι' a' w' hR' => sM hΓ l (k + 1) _ h2 B' ι' a' w' hR'
  split at h
  ·exact step h
  ·exact step h
  ·unfold BMA at h
   split at h
   case h_2 => exact h.elim
   rename_i s hs
   split at h
   case h_2 => exact h.elim
   rename_i d id kk n hdst hval
   split at h
   case h_2 => exact h.elim
   rename_i k2 n2 get hid
   split at h
   case isFalse => exact h.elim
   rename_i hkk
   rw [GV] at hkk
   subst hkk
   obtain ⟨h1, h2⟩ := UT h
   obtain ⟨h3, h4⟩ := BR h1
   obtain ⟨h5, h6⟩ := BR h4
   have st := kL hΓ hs h5 λ _ => h3
   refine st.sound hR hd λ B' ι' a' w' hR' => ?_
   obtain ⟨B2, hR2⟩ := hR'.frz (dst := some d) (n := n) (get := get) (id := id) hid (λ d' hd' => by
    cases hd'
    simp only [AState.app, T7, hdst, if_true]; exact hval) h6
   have e : (⟨Ww (σ.app o.dst s.val s.upd).sl (some d) (.d (.list kk n get false)), FO (σ.app o.dst s.val s.upd).H id .dead⟩ : AState) = ⟨Ww σ.sl (some d) (.d (.list kk n get false)), FO (HF σ.H s.upd) id .dead⟩ := by
    simp only [AState.app, hdst]
    congr 1
    funext t
    simp only [T7]
    split <;> rfl
   rw [e] at hR2
   exact sM hΓ l (k + 1) _ h2 B2 ι' a' w' hR2
theorem AID {Γ : FuncId -> Option Spec} (hΓ : GOk P Γ) {md : Nat -> Nat} {ops : Array Oper} {base id : Nat} (h : runM P Γ md ops base c.n (Q .normal) ops.toList 0 σ) : CodeE P c (.region id ops false) Q σ :=
 λ B ι a w hR => wpIn_region_list (sM hΓ ops.toList 0 σ h B ι a w hR)
end Go.Sym
