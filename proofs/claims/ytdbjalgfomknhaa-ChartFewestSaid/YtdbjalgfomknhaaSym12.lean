/- A condition in parts: what comes behind a cut may be reckoned apart. -/
import Derived.Test.YtdbjalgfomknhaaSym11
set_option linter.unusedVariables false
set_option linter.unusedSimpArgs false
namespace Go.Sym
variable {P : Program} {B B' : Hy} {ι ι' : Nat -> Pl} {H H' : Heap} {w w' : World} {c : Ctx} {σ : AState} {Q : Exit -> AState -> Prop}
def hasS (k : Nat) : Code -> Bool
  | .seq x y => Nat.beq (Mr y) k || hasS k x || hasS k y
  | .cond _ t e => hasS k t || hasS k e
  | .block _ x => hasS k x
  | .scope x => hasS k x
  | .loop x => hasS k x
  | _ => false
def vcS (P : Program) (A : Ann) (S : Nat -> Bool) : Code -> List Nat -> (Exit -> AState -> Prop) -> AState -> Prop
  | .seq x y, gs, Q, σ => match A.cutAt gs (Mr y) with
    | some L => bif S (Mr y) then vcS P A S x gs (Mp (λ σ' => Fi A.E (·.at1) σ' (λ s a => s.inv a) L) Q) σ
        else vcS P A S x gs (Mp (λ σ' => Fi A.E (·.at1) σ' (λ s a => s.inv a) L) Q) σ /\ allS (λ s => ∀ a, s.inv a -> vcS P A S y (s.tag ++ gs) Q (s.T a).st) L
    | none => vcS P A S x gs (Mp (vcS P A S y gs Q) Q) σ
  | .cond x t e, gs, Q, σ => match BN σ.sl x with
    | .d (.v (.bool v)) => bif v then vcS P A S t gs Q σ else vcS P A S e gs Q σ
    | _ => False
  | .block id x, gs, Q, σ => vcS P A S x gs (AXZ id Q) σ
  | .scope x, gs, Q, σ => vcS P A S x gs (AXR Q) σ
  | .loop x, gs, Q, σ => match A.loopAt gs (Mr x) with
    | some L => Fi A.E (·.at1) σ (λ s a => s.inv a) L /\
        allS (λ s => ∀ a, s.inv a -> vcS P A S x (s.meas a :: (s.tag ++ gs)) (Mp (λ σ' => Fi A.E (·.at2) σ' (λ s' a' => s'.inv a' /\ s'.meas a' < s.meas a) L) Q) (s.T a).st) L
    | none => False
  | x, gs, Q, σ => vc P A x false gs Q σ
def gAnd : List (Bool × Prop) -> Prop
  | [] => True
  | (b, p) :: r => bif b then (bif r.any (·.1) then p /\ gAnd r else p) else gAnd r
theorem Dy : ∀ {l : List (Bool × Prop)}, gAnd l -> ∀ b p, (b, p) ∈ l -> b = true -> p
  | [], _, b, p, h, _ => by cases h
  | (b0, p0) :: r, h, b, p, hm, hb => by
    unfold gAnd at h
    cases b0 with
    | false =>
      rcases List.mem_cons.1 hm with he | hm
      · cases he; cases hb
      · exact Dy h b p hm hb
    | true =>
      simp only [cond_true] at h
      cases hr : r.any (·.1) with
      | false =>
        rw [hr] at h
        rcases List.mem_cons.1 hm with he | hm
        · cases he; exact h
        · have := List.any_eq_false.1 hr _ hm
          simp at this; rw [this] at hb; cases hb
      | true =>
        rw [hr] at h
        rcases List.mem_cons.1 hm with he | hm
        · cases he; exact h.1
        · exact Dy h.2 b p hm hb
def eqL : List Nat -> List Nat -> Bool
  | [], [] => true
  | x :: xs, y :: ys => Nat.beq x y && eqL xs ys
  | _, _ => false
theorem BUC : ∀ {x y : List Nat}, eqL x y = true -> x = y
  | [], [], _ => rfl
  | x :: xs, y :: ys, h => by
    simp only [eqL, Bool.and_eq_true] at h
    rw [Nat.eq_of_beq_eq_true h.1, BUC h.2]
  | [], _ :: _, h => by simp [eqL] at h
  | _ :: _, [], h => by simp [eqL] at h
def nubT : List (List Nat) -> List (List Nat)
  | [] => []
  | t :: r => bif r.any (eqL t) then nubT r else t :: nubT r
theorem APF : ∀ {l : List (List Nat)} {t : List Nat}, t ∈ l -> t ∈ nubT l
  | u :: r, t, h => by
    unfold nubT
    cases hr : r.any (eqL u) with
    | true =>
      rcases List.mem_cons.1 h with rfl | h
      · obtain ⟨v, hv, he⟩ := List.any_eq_true.1 hr
        rw [BUC he]; exact APF hv
      · exact APF h
    | false =>
      rcases List.mem_cons.1 h with rfl | h
      · exact .head _
      · exact .tail _ (APF h)
def allG (K : List Nat -> Prop) : List (List Nat) -> Prop
  | [] => True
  | [t] => K t
  | t :: l => K t /\ allG K l
theorem BEU {K : List Nat -> Prop} : ∀ {l : List (List Nat)}, allG K l -> ∀ t ∈ l, K t
  | [], _, t, h => by cases h
  | [u], h, t, ht => by simp at ht; subst ht; exact h
  | u :: v :: l, h, t, ht => by
    rcases List.mem_cons.1 ht with rfl | ht
    · exact h.1
    · exact BEU (l := v :: l) h.2 t ht
abbrev Leaf := List Shape -> Code -> List Nat -> (Exit -> AState -> Prop) -> Prop
def Eb (P : Program) (A : Ann) (S : Nat -> Bool) (k : Nat) (F : Leaf) : Code -> List Nat -> (Exit -> AState -> Prop) -> Prop
  | .seq x y, gs, Q => match A.cutAt gs (Mr y) with
    | some L => gAnd [(Nat.beq (Mr y) k, F L y gs Q), (hasS k x, Eb P A S k F x gs (Mp (λ σ' => Fi A.E (·.at1) σ' (λ s a => s.inv a) L) Q)),
        (hasS k y, allG (λ t => Eb P A S k F y (t ++ gs) Q) (nubT (L.map (·.tag))))]
    | none => gAnd [(hasS k x, Eb P A S k F x gs (Mp (vcS P A S y gs Q) Q)), (hasS k y, Eb P A S k F y gs Q)]
  | .cond _ t e, gs, Q => gAnd [(hasS k t, Eb P A S k F t gs Q), (hasS k e, Eb P A S k F e gs Q)]
  | .block id x, gs, Q => Eb P A S k F x gs (AXZ id Q)
  | .scope x, gs, Q => Eb P A S k F x gs (AXR Q)
  | .loop x, gs, Q => match A.loopAt gs (Mr x) with
    | some L => allS (λ s => ∀ a, s.inv a -> Eb P A S k F x (s.meas a :: (s.tag ++ gs)) (Mp (λ σ' => Fi A.E (·.at2) σ' (λ s' a' => s'.inv a' /\ s'.meas a' < s.meas a) L) Q)) L
    | none => True
  | _, _, _ => True
def stdF (P : Program) (A : Ann) (S : Nat -> Bool) : Leaf := λ L y gs Q => allS (λ s => ∀ a, s.inv a -> vcS P A S y (s.tag ++ gs) Q (s.T a).st) L
theorem BRW {A : Ann} {S : Nat -> Bool} (hΓ : GOk P A.Γ) (hI : sG P A) (hm : P.follows .mixedOrders = true) : ∀ (code : Code) (gs : List Nat) (Q : Exit -> AState -> Prop) (σ : AState) (c : Ctx), c.n = A.n -> (c.rd = none /\ c.mks = true /\ ∀ i, c.H0.dom i -> i ∈ A.E) ->
    (∀ k, S k = true -> hasS k code = true -> Eb P A S k (stdF P A S) code gs Q) -> vcS P A S code gs Q σ -> CodeE P c code Q σ := by
  intro code
  induction code with
  | seq x y ihx ihy =>
    intro gs Q σ c hn hc hl h
    simp only [vcS] at h
    have hE := hc.2.2
    split at h
    · rename_i L hL
      simp only [Eb, hL] at hl
      have hlx : ∀ k, S k = true -> hasS k x = true -> Eb P A S k (stdF P A S) x gs (Mp (λ σ' => Fi A.E (·.at1) σ' (λ s a => s.inv a) L) Q) := λ k h1 h2 =>
        Dy (hl k h1 (by simp [hasS, h2])) _ _ (.tail _ (.head _)) h2
      have hly : ∀ s ∈ L, ∀ a, s.inv a -> ∀ k, S k = true -> hasS k y = true -> Eb P A S k (stdF P A S) y (s.tag ++ gs) Q := λ s hs a ha k h1 h2 =>
        BEU (Dy (hl k h1 (by simp [hasS, h2])) _ _ (.tail _ (.tail _ (.head _))) h2) _ (APF (List.mem_map.2 ⟨s, hs, rfl⟩))
      have h' : vcS P A S x gs (Mp (λ σ' => Fi A.E (·.at1) σ' (λ s a => s.inv a) L) Q) σ /\ allS (λ s => ∀ a, s.inv a -> vcS P A S y (s.tag ++ gs) Q (s.T a).st) L := by
        cases hS : S (Mr y) with
        | true =>
          rw [hS] at h
          exact ⟨h, Dy (hl _ hS (by simp [hasS])) _ _ (.head _) (by simp)⟩
        | false => rw [hS] at h; exact h
      obtain ⟨h0, h3⟩ := h'
      refine .seq (CodeE.mono (ihx gs _ σ c hn hc hlx h0) λ e σ' hq => ?_)
      cases e with
      | normal =>
        obtain ⟨s, hs, a, h1, h2⟩ := VI hq
        exact CodeE.subF hE h1 (ihy _ Q _ c hn hc (hly s hs a h2) (Ps h3 s hs a h2))
      | _ => exact hq
    · rename_i hL
      simp only [Eb, hL] at hl
      refine .seq (CodeE.mono (ihx gs _ σ c hn hc (λ k h1 h2 => Dy (hl k h1 (by simp [hasS, h2])) _ _ (.head _) h2) h) λ e σ' hq => ?_)
      cases e with
      | normal => exact ihy gs Q σ' c hn hc (λ k h1 h2 => Dy (hl k h1 (by simp [hasS, h2])) _ _ (.tail _ (.head _)) h2) hq
      | _ => exact hq
  | cond x t e iht ihe =>
    intro gs Q σ c hn hc hl h
    simp only [vcS] at h
    simp only [Eb] at hl
    split at h
    · rename_i v hb
      rw [BOH] at h
      exact .cond hb (λ hb => iht gs Q σ c hn hc (λ k h1 h2 => Dy (hl k h1 (by simp [hasS, h2])) _ _ (.head _) h2) (h.1 hb))
        λ hb => ihe gs Q σ c hn hc (λ k h1 h2 => Dy (hl k h1 (by simp [hasS, h2])) _ _ (.tail _ (.head _)) h2) (h.2 hb)
    · exact h.elim
  | block id x ih => intro gs Q σ c hn hc hl h; exact .block (ih gs _ σ c hn hc hl h)
  | scope x ih => intro gs Q σ c hn hc hl h; exact .noGoto (ih gs _ σ c hn hc hl h)
  | loop x ih =>
    intro gs Q σ c hn hc hl h
    simp only [vcS] at h
    split at h
    · rename_i L hL
      simp only [Eb, hL] at hl
      have hE := hc.2.2
      obtain ⟨h0, h3⟩ := h
      obtain ⟨s, hs, a, h1, h2⟩ := VI h0
      refine .loop (λ k σ => ∃ l fz s a, s ∈ L /\ HK (Cc A.E fz l (s.T a) σ) /\ s.inv a /\ s.meas a = k) (s.meas a) ⟨_, _, s, a, hs, h1, h2, rfl⟩ ?_
      rintro k σ' ⟨l, fz, s, a, hs, h4, h5, rfl⟩
      refine CodeE.subF hE h4 (CodeE.mono (ih _ _ _ c hn hc (λ k h1 h2 => Ps (hl k h1 h2) s hs a h5) (Ps h3 s hs a h5)) λ e σ'' hq => ?_)
      cases e with
      | normal => obtain ⟨s', q0, a', q1, q2, q3⟩ := VI hq; exact ⟨s'.meas a', q3, _, _, s', a', q0, q1, q2, rfl⟩
      | _ => exact hq
    · exact h.elim
  | _ => intro gs Q σ c hn hc hl h; exact BJT hΓ hI hm _ false gs Q σ c hn (λ _ => hc) h
def endQ (P : Program) (A : Ann) (fn : Func) (val : AVal) (keep : List (Nat × HCell)) (ren : List (Nat × Nat)) (fz : List Nat) : Exit -> AState -> Prop := λ e σ' => match e with
    | .normal | .ret => resC P fn σ' λ v => Cc A.E fz ren ⟨[(0, val)], keep⟩ ⟨λ _ => v, σ'.H⟩
    | _ => False
def BEH (P : Program) (A : Ann) (S : Nat -> Bool) (fn : Func) (code : Code) (as : List AVal) (H : Heap) (val : AVal) (keep : List (Nat × HCell)) (ren : List (Nat × Nat)) (fz : List Nat) : Prop :=
  vcS P A S code [] (endQ P A fn val keep ren fz) ⟨U1 as, H⟩
theorem FnT.of_vcS {A : Ann} {S : Nat -> Bool} (hΓ : GOk P A.Γ) (hI : sG P A) (hm : P.follows .mixedOrders = true) {g : FuncId} {as : List AVal} {L : List (Nat × AObj)} {val : AVal} {keep : List (Nat × HCell)} {ren : List (Nat × Nat)} {fz : List Nat} {fn : Func} {code : Code}
    (hf : P.funcs[g]? = some fn) (hname : (fn.name == "runtime.NumGoroutine") = false) (hb : fn.body = some code) (hn : A.n = fn.ntmps /\ as.length <= fn.ntmps) (hE : A.E = L.map (·.1)) (hk : nodup (keep.map (·.1)) = true)
    (hl : ∀ k, S k = true -> hasS k code = true -> Eb P A S k (stdF P A S) code [] (endQ P A fn val keep ren fz))
    (h : BEH P A S fn code as (AH L) val keep ren fz) : FnT P g as (AH L) val keep := by
  refine ⟨AQG hf hname hb, λ B ι w vs ha hH => ?_⟩
  refine APG hf hb ?_
  have hE' : ∀ i, (AH L).dom i -> i ∈ A.E := λ i hi => by
    rw [hE]
    unfold Heap.dom AH at hi
    cases hg : LW L i with
    | none => exact absurd (by simp only [hg]) hi
    | some o => exact List.mem_map.2 ⟨_, Qs hg, rfl⟩
  have hc := BRW hΓ hI hm code [] _ _ ⟨B, ι, AH L, w, fn.ntmps, none, true⟩ hn.1.symm ⟨rfl, rfl, hE'⟩ hl h B ι _ w (ASR ha hn.2 hH)
  refine Code.wpIn_mono (λ e a w' hq => ?_) hc
  obtain ⟨B', ι', σ', hr, hR⟩ := hq
  have fin : (resC P fn σ' λ v => Cc A.E fz ren ⟨[(0, val)], keep⟩ ⟨λ _ => v, σ'.H⟩) -> LeavesInM Fence.wide 0 P fn a.tmps (λ e w' => ∃ v H', e = .returned v /\ Ws H' keep /\ UL B ι (AH L) w H' val v w') a.defers .returning w' := λ hr => by
    refine AVY hR (BDJ hr) λ w2 v val' m2 h2 h3 => ?_
    obtain ⟨B2, q1, q2, _⟩ := Moved.subF hE' h2 m2
    refine ⟨v, iK keep, rfl, jR _ _ (VS hk) (λ _ h => h), B2, _, q1, ?_⟩
    have := q2 0 v h3
    simpa [MI] using this
  cases e with
  | normal => exact fin hr
  | ret => exact fin hr
  | _ => exact hr.elim
attribute [irreducible] Eb vcS BEH
end Go.Sym

namespace Go.Sym
variable {P : Program} {B B' : Hy} {ι ι' : Nat -> Pl} {H H' : Heap} {D : Nat -> Prop} {w w' : World}
def BZM : AVal -> Bool
  | .d (.v _) => true
  | .tup cs => cs.all λ c => match c with
    | .d (.v _) => true
    | _ => false
  | _ => false
theorem BYJ {D' : Nat -> Prop} {x : Value} {y : Value} (h : VRel B ι D (.d (.v x)) y) : VRel B' ι' D' (.d (.v x)) y := by
  cases h with
  | d h => cases h; exact .d (.v _)
theorem BUB {D' : Nat -> Prop} {a : AVal} {y : Value} (hf : BZM a = true) (h : VRel B ι D a y) : VRel B' ι' D' a y := by
  unfold BZM at hf
  split at hf
  · exact BYJ h
  · rename_i cs
    cases h with
    | tup hl hh =>
      refine .tup hl λ j x y hx hy => ?_
      have := List.all_eq_true.1 hf x (List.mem_of_getElem? hx)
      split at this
      · exact BYJ (hh j _ y hx hy)
      · cases this
  · cases hf
theorem FnT.lend {g : FuncId} {as xs : List AVal} {L : List (Nat × AObj)} {val : AVal} {fz : List Nat} (h : FnT P g as (AH []) val []) (hv : BZM val = true)
    (ha : frL (RW (AH L) fz) xs = as) (hok : okL (λ _ => false) as = true) (hc : DZ (frCL (RW (AH L) fz) xs)) (keep : List (Nat × HCell)) (hk : Ws (AH L) keep) : FnT P g xs (AH L) val keep := by
  refine ⟨h.1, λ B ι w vs hvs hH => ?_⟩
  obtain ⟨B', hm, hF⟩ := ZB fz hH
  have hargs := Dv hF xs vs hc hvs.2
  have hH0 : HRel B' ι (AH []) w := ⟨λ i o ho => by simp [AH, LW] at ho, λ i j o o' ho => by simp [AH, LW] at ho, λ i o ho => by simp [AH, LW] at ho, hm.heap.imm⟩
  refine Calls.mono (h.2 B' ι w vs ⟨by rw [hvs.1, <- ha, Qb], λ j x y hx hy => ?_⟩ hH0) λ e w' hh => ?_
  · rw [<- ha] at hx hok
    exact VRel.keep (p := λ _ => false) (λ i hi => by cases hi) _ _ (BEX hok hx) (hargs j x y hx hy)
  · obtain ⟨v, H', rfl, _, B2, ι2, m, hr⟩ := hh
    have fr : ∀ b, b < w.heap.size -> w'.heap[b]? = w.heap[b]? := λ b hb => m.frame b hb λ i o ho => by simp [AH, LW] at ho
    have lt : ∀ {b : Nat} {x}, w.heap[b]? = some x -> b < w.heap.size := λ {b x} hx => by
      obtain ⟨h1, _⟩ := Array.getElem?_eq_some_iff.1 hx; exact h1
    refine ⟨v, AH L, rfl, hk, B, ι, ⟨λ _ _ h => h, λ _ _ h => .inl h, λ _ h => ⟨h, rfl⟩, ⟨λ i o ho => ?_, hH.inj, hH.sep, λ b c hb => ?_⟩, λ i o ho => .inl ⟨i, o, ho, rfl⟩, λ b hb _ => fr b hb, m.size, m.calm⟩, BUB hv hr⟩
    · have ho' := hH.obj i o ho
      have : (ι i).b < w.heap.size := by
        cases hq : w.heap[(ι i).b]? with
        | none => rw [hq] at ho'; cases ho'
        | some x => exact lt hq
      rw [fr _ this]; exact ho'
    · obtain ⟨e, r, hq⟩ := hH.imm b c hb
      exact ⟨e, r, by rw [fr _ (lt hq)]; exact hq⟩
end Go.Sym
