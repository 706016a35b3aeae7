/- A condition in parts: what comes behind a cut may be reckoned apart. -/
import Derived.Test.YtonddbmhljelgaaSym9
set_option linter.unusedVariables false
set_option linter.unusedSimpArgs false
namespace Go.Sym
variable {P : Program} {B B' : De} {ι ι' : Nat -> Pl} {H H' : Heap} {w w' : World} {c : Ctx} {σ : AState} {Q : Exit -> AState -> Prop}
def hasS (k : Nat) : Code -> Bool
 | .seq x y => Nat.beq (Gw y) k || hasS k x || hasS k y
 | .cond _ t e => hasS k t || hasS k e
 | .block _ x => hasS k x
 | .scope x => hasS k x
 | .loop x => hasS k x
 | _ => false
def vcS (P : Program) (A : Ann) (S : Nat -> Bool) : Code -> List Nat -> (Exit -> AState -> Prop) -> AState -> Prop
 | .seq x y, gs, Q, σ => match A.cutAt gs (Gw y) with
  | some L => bif S (Gw y) then vcS P A S x gs (Gr (λ σ' => YS A.E (·.at1) σ' (λ s a => s.inv a) L) Q) σ
    else vcS P A S x gs (Gr (λ σ' => YS A.E (·.at1) σ' (λ s a => s.inv a) L) Q) σ /\ allS (λ s => ∀ a, s.inv a -> vcS P A S y (s.tag ++ gs) Q (s.T a).st) L
  | none => vcS P A S x gs (Gr (vcS P A S y gs Q) Q) σ
 | .cond x t e, gs, Q, σ => match BP σ.sl x with
  | .d (.v (.bool v)) => bif v then vcS P A S t gs Q σ else vcS P A S e gs Q σ
  | _ => False
 | .block id x, gs, Q, σ => vcS P A S x gs (AGU id Q) σ
 | .scope x, gs, Q, σ => vcS P A S x gs (U5 Q) σ
 | .loop x, gs, Q, σ => match A.loopAt gs (Gw x) with
  | some L => YS A.E (·.at1) σ (λ s a => s.inv a) L /\
    allS (λ s => ∀ a, s.inv a -> vcS P A S x (s.meas a :: (s.tag ++ gs)) (Gr (λ σ' => YS A.E (·.at2) σ' (λ s' a' => s'.inv a' /\ s'.meas a' < s.meas a) L) Q) (s.T a).st) L
  | none => False
 | x, gs, Q, σ => vc P A x false gs Q σ
def gAnd : List (Bool × Prop) -> Prop
 | [] => True
 | (b, p) :: r => bif b then (bif r.any (·.1) then p /\ gAnd r else p) else gAnd r
theorem JR : ∀ {l : List (Bool × Prop)}, gAnd l -> ∀ b p, (b, p) ∈ l -> b = true -> p
 | [], _, b, p, h, _ => by cases h
 | (b0, p0) :: r, h, b, p, hm, hb => by
  unfold gAnd at h
  cases b0 with
  | false =>
   rcases List.mem_cons.1 hm with he | hm
   ·cases he; cases hb
   ·exact JR h b p hm hb
  | true =>
   simp only [cond_true] at h
   cases hr : r.any (·.1) with
   | false =>
    rw [hr] at h
    rcases List.mem_cons.1 hm with he | hm
    ·cases he; exact h
    ·have := List.any_eq_false.1 hr _ hm
     simp at this; rw [this] at hb; cases hb
   | true =>
    rw [hr] at h
    rcases List.mem_cons.1 hm with he | hm
    ·cases he; exact h.1
    ·exact JR h.2 b p hm hb
def eqL : List Nat -> List Nat -> Bool
 | [], [] => true
 | x :: xs, y :: ys => Nat.beq x y && eqL xs ys
 | _, _ => false
theorem BIX : ∀ {x y : List Nat}, eqL x y = true -> x = y
 | [], [], _ => rfl
 | x :: xs, y :: ys, h => by
  simp only [eqL, Bool.and_eq_true] at h
  rw [Nat.eq_of_beq_eq_true h.1, BIX h.2]
 | [], _ :: _, h => by simp [eqL] at h
 | _ :: _, [], h => by simp [eqL] at h
def nubT : List (List Nat) -> List (List Nat)
 | [] => []
 | t :: r => bif r.any (eqL t) then nubT r else t :: nubT r
theorem vW : ∀ {l : List (List Nat)} {t : List Nat}, t ∈ l -> t ∈ nubT l
 | u :: r, t, h => by
  unfold nubT
  cases hr : r.any (eqL u) with
  | true =>
   rcases List.mem_cons.1 h with rfl | h
   ·obtain ⟨v, hv, he⟩ := List.any_eq_true.1 hr
    rw [BIX he]; exact vW hv
   ·exact vW h
  | false =>
   rcases List.mem_cons.1 h with rfl | h
   ·exact .head _
   ·exact .tail _ (vW h)
def allG (K : List Nat -> Prop) : List (List Nat) -> Prop
 | [] => True
 | [t] => K t
 | t :: l => K t /\ allG K l
theorem G9 {K : List Nat -> Prop} : ∀ {l : List (List Nat)}, allG K l -> ∀ t ∈ l, K t
 | [], _, t, h => by cases h
 | [u], h, t, ht => by simp at ht; subst ht; exact h
 | u :: v :: l, h, t, ht => by
  rcases List.mem_cons.1 ht with rfl | ht
  ·exact h.1
  ·exact G9 (l := v :: l) h.2 t ht
theorem AZU {K : List Nat -> Prop} : ∀ {l : List (List Nat)}, (∀ t ∈ l, K t) -> allG K l
 | [], _ => trivial
 | [t], h => h t (by simp)
 | t :: u :: l, h => ⟨h t (by simp), AZU (l := u :: l) λ v hv => h v (List.mem_cons_of_mem _ hv)⟩
abbrev Leaf := List Shape -> Code -> List Nat -> (Exit -> AState -> Prop) -> Prop
def FA (P : Program) (A : Ann) (S : Nat -> Bool) (k : Nat) (F : Leaf) : Code -> List Nat -> (Exit -> AState -> Prop) -> Prop
 | .seq x y, gs, Q => match A.cutAt gs (Gw y) with
  | some L => gAnd [(Nat.beq (Gw y) k, F L y gs Q), (hasS k x, FA P A S k F x gs (Gr (λ σ' => YS A.E (·.at1) σ' (λ s a => s.inv a) L) Q)),
    (hasS k y, allG (λ t => FA P A S k F y (t ++ gs) Q) (nubT (L.map (·.tag))))]
  | none => gAnd [(hasS k x, FA P A S k F x gs (Gr (vcS P A S y gs Q) Q)), (hasS k y, FA P A S k F y gs Q)]
 | .cond _ t e, gs, Q => gAnd [(hasS k t, FA P A S k F t gs Q), (hasS k e, FA P A S k F e gs Q)]
 | .block id x, gs, Q => FA P A S k F x gs (AGU id Q)
 | .scope x, gs, Q => FA P A S k F x gs (U5 Q)
 | .loop x, gs, Q => match A.loopAt gs (Gw x) with
  | some L => allS (λ s => ∀ a, s.inv a -> FA P A S k F x (s.meas a :: (s.tag ++ gs)) (Gr (λ σ' => YS A.E (·.at2) σ' (λ s' a' => s'.inv a' /\ s'.meas a' < s.meas a) L) Q)) L
  | none => True
 | _, _, _ => True
def stdF (P : Program) (A : Ann) (S : Nat -> Bool) : Leaf := λ L y gs Q => allS (λ s => ∀ a, s.inv a -> vcS P A S y (s.tag ++ gs) Q (s.T a).st) L
theorem BAL {K : Shape -> Prop} : ∀ {l : List Shape}, (∀ s ∈ l, K s) -> allS K l
 | [], _ => trivial
 | [s], h => h s (by simp)
 | s :: t :: l, h => ⟨h s (by simp), BAL (l := t :: l) λ u hu => h u (List.mem_cons_of_mem _ hu)⟩
theorem S7 : ∀ {l : List (Bool × Prop)}, (∀ b p, (b, p) ∈ l -> b = true -> p) -> gAnd l
 | [], _ => trivial
 | (b, p) :: r, h => by
  unfold gAnd
  have hr := S7 (l := r) λ b p hm => h b p (List.mem_cons_of_mem _ hm)
  cases b with
  | false => exact hr
  | true =>
   have hp := h true p (by simp) rfl
   simp only [cond_true]
   cases r.any (·.1) with
   | false => exact hp
   | true => exact ⟨hp, hr⟩
theorem BCP {A : Ann} {S : Nat -> Bool} {k : Nat} {I : Type} (F : I -> Leaf) (G : Leaf) (hFG : ∀ L y gs Q, A.cutAt gs k = some L -> (∀ i, F i L y gs Q) -> G L y gs Q) : ∀ (x : Code) (gs : List Nat) (Q : Exit -> AState -> Prop), (∀ i, FA P A S k (F i) x gs Q) -> FA P A S k G x gs Q := by
 intro x
 induction x with
 | seq x y ihx ihy =>
  intro gs Q h
  simp only [FA] at h ⊢
  split
  ·rename_i L hL
   simp only [hL] at h
   refine S7 λ b p hm hb => ?_
   simp only [List.mem_cons, List.not_mem_nil, or_false, Prod.mk.injEq] at hm
   rcases hm with ⟨h1, rfl⟩ | ⟨h1, rfl⟩ | ⟨h1, rfl⟩
   ·exact hFG _ _ _ _ (by subst h1; rw [<- Nat.eq_of_beq_eq_true hb]; exact hL) λ i => JR (h i) _ _ (.head _) (h1 ▸ hb)
   ·exact ihx _ _ λ i => JR (h i) _ _ (.tail _ (.head _)) (h1 ▸ hb)
   ·refine AZU λ t ht => ihy _ _ λ i => G9 (JR (h i) _ _ (.tail _ (.tail _ (.head _))) (h1 ▸ hb)) t ht
  ·rename_i hL
   simp only [hL] at h
   refine S7 λ b p hm hb => ?_
   simp only [List.mem_cons, List.not_mem_nil, or_false, Prod.mk.injEq] at hm
   rcases hm with ⟨h1, rfl⟩ | ⟨h1, rfl⟩
   ·exact ihx _ _ λ i => JR (h i) _ _ (.head _) (h1 ▸ hb)
   ·exact ihy _ _ λ i => JR (h i) _ _ (.tail _ (.head _)) (h1 ▸ hb)
 | cond c t e iht ihe =>
  intro gs Q h
  simp only [FA] at h ⊢
  refine S7 λ b p hm hb => ?_
  simp only [List.mem_cons, List.not_mem_nil, or_false, Prod.mk.injEq] at hm
  rcases hm with ⟨h1, rfl⟩ | ⟨h1, rfl⟩
  ·exact iht _ _ λ i => JR (h i) _ _ (.head _) (h1 ▸ hb)
  ·exact ihe _ _ λ i => JR (h i) _ _ (.tail _ (.head _)) (h1 ▸ hb)
 | block id x ih => intro gs Q h; exact ih _ _ h
 | scope x ih => intro gs Q h; exact ih _ _ h
 | loop x ih =>
  intro gs Q h
  simp only [FA] at h ⊢
  split
  ·rename_i L hL
   simp only [hL] at h
   exact BAL λ s hs a ha => ih _ _ λ i => Cy (h i) s hs a ha
  ·trivial
 | _ => intro gs Q h; trivial
theorem BDT {A : Ann} {S : Nat -> Bool} (hΓ : GOk P A.Γ) (hI : bK P A) (hm : P.follows .mixedOrders = true) : ∀ (code : Code) (gs : List Nat) (Q : Exit -> AState -> Prop) (σ : AState) (c : Ctx), c.n = A.n -> (c.rd = none /\ c.mks = true /\ ∀ i, c.H0.dom i -> i ∈ A.E) ->
  (∀ k, S k = true -> hasS k code = true -> FA P A S k (stdF P A S) code gs Q) -> vcS P A S code gs Q σ -> CodeE P c code Q σ := by
 intro code
 induction code with
 | seq x y ihx ihy =>
  intro gs Q σ c hn hc hl h
  simp only [vcS] at h
  have hE := hc.2.2
  split at h
  ·rename_i L hL
   simp only [FA, hL] at hl
   have hlx : ∀ k, S k = true -> hasS k x = true -> FA P A S k (stdF P A S) x gs (Gr (λ σ' => YS A.E (·.at1) σ' (λ s a => s.inv a) L) Q) := λ k h1 h2 =>
    JR (hl k h1 (by simp [hasS, h2])) _ _ (.tail _ (.head _)) h2
   have hly : ∀ s ∈ L, ∀ a, s.inv a -> ∀ k, S k = true -> hasS k y = true -> FA P A S k (stdF P A S) y (s.tag ++ gs) Q := λ s hs a ha k h1 h2 =>
    G9 (JR (hl k h1 (by simp [hasS, h2])) _ _ (.tail _ (.tail _ (.head _))) h2) _ (vW (List.mem_map.2 ⟨s, hs, rfl⟩))
   have h' : vcS P A S x gs (Gr (λ σ' => YS A.E (·.at1) σ' (λ s a => s.inv a) L) Q) σ /\ allS (λ s => ∀ a, s.inv a -> vcS P A S y (s.tag ++ gs) Q (s.T a).st) L := by
    cases hS : S (Gw y) with
    | true =>
     rw [hS] at h
     exact ⟨h, JR (hl _ hS (by simp [hasS])) _ _ (.head _) (by simp)⟩
    | false => rw [hS] at h; exact h
   obtain ⟨h0, h3⟩ := h'
   refine .seq (CodeE.mono (ihx gs _ σ c hn hc hlx h0) λ e σ' hq => ?_)
   cases e with
   | normal =>
    obtain ⟨s, hs, a, h1, h2⟩ := QP hq
    exact CodeE.subF hE h1 (ihy _ Q _ c hn hc (hly s hs a h2) (Cy h3 s hs a h2))
   | _ => exact hq
  ·rename_i hL
   simp only [FA, hL] at hl
   refine .seq (CodeE.mono (ihx gs _ σ c hn hc (λ k h1 h2 => JR (hl k h1 (by simp [hasS, h2])) _ _ (.head _) h2) h) λ e σ' hq => ?_)
   cases e with
   | normal => exact ihy gs Q σ' c hn hc (λ k h1 h2 => JR (hl k h1 (by simp [hasS, h2])) _ _ (.tail _ (.head _)) h2) hq
   | _ => exact hq
 | cond x t e iht ihe =>
  intro gs Q σ c hn hc hl h
  simp only [vcS] at h
  simp only [FA] at hl
  split at h
  ·rename_i v hb
   rw [BAO] at h
   exact .cond hb (λ hb => iht gs Q σ c hn hc (λ k h1 h2 => JR (hl k h1 (by simp [hasS, h2])) _ _ (.head _) h2) (h.1 hb))
    λ hb => ihe gs Q σ c hn hc (λ k h1 h2 => JR (hl k h1 (by simp [hasS, h2])) _ _ (.tail _ (.head _)) h2) (h.2 hb)
  ·exact h.elim
 | block id x ih => intro gs Q σ c hn hc hl h; exact .block (ih gs _ σ c hn hc hl h)
 | scope x ih => intro gs Q σ c hn hc hl h; exact .noGoto (ih gs _ σ c hn hc hl h)
 | loop x ih =>
  intro gs Q σ c hn hc hl h
  simp only [vcS] at h
  split at h
  ·rename_i L hL
   simp only [FA, hL] at hl
   have hE := hc.2.2
   obtain ⟨h0, h3⟩ := h
   obtain ⟨s, hs, a, h1, h2⟩ := QP h0
   refine .loop (λ k σ => ∃ l fz s a, s ∈ L /\ ET (XN A.E fz l (s.T a) σ) /\ s.inv a /\ s.meas a = k) (s.meas a) ⟨_, _, s, a, hs, h1, h2, rfl⟩ ?_
   rintro k σ' ⟨l, fz, s, a, hs, h4, h5, rfl⟩
   refine CodeE.subF hE h4 (CodeE.mono (ih _ _ _ c hn hc (λ k h1 h2 => Cy (hl k h1 h2) s hs a h5) (Cy h3 s hs a h5)) λ e σ'' hq => ?_)
   cases e with
   | normal => obtain ⟨s', q0, a', q1, q2, q3⟩ := QP hq; exact ⟨s'.meas a', q3, _, _, s', a', q0, q1, q2, rfl⟩
   | _ => exact hq
  ·exact h.elim
 | _ => intro gs Q σ c hn hc hl h; exact ARR hΓ hI hm _ false gs Q σ c hn (λ _ => hc) h
def endQ (P : Program) (A : Ann) (fn : Func) (val : AVal) (keep : List (Nat × HCell)) (ren : List (Nat × Nat)) (fz : List Nat) : Exit -> AState -> Prop := λ e σ' => match e with
  | .normal | .ret => resC P fn σ' λ v => XN A.E fz ren ⟨[(0, val)], keep⟩ ⟨λ _ => v, σ'.H⟩
  | _ => False
def AXZ (P : Program) (A : Ann) (S : Nat -> Bool) (fn : Func) (code : Code) (as : List AVal) (H : Heap) (val : AVal) (keep : List (Nat × HCell)) (ren : List (Nat × Nat)) (fz : List Nat) : Prop :=
 vcS P A S code [] (endQ P A fn val keep ren fz) ⟨nP as, H⟩
theorem FnT.of_vcS {A : Ann} {S : Nat -> Bool} (hΓ : GOk P A.Γ) (hI : bK P A) (hm : P.follows .mixedOrders = true) {g : FuncId} {as : List AVal} {L : List (Nat × AObj)} {val : AVal} {keep : List (Nat × HCell)} {ren : List (Nat × Nat)} {fz : List Nat} {fn : Func} {code : Code}
  (hf : P.funcs[g]? = some fn) (hname : (fn.name == "runtime.NumGoroutine") = false) (hb : fn.body = some code) (hn : A.n = fn.ntmps /\ as.length <= fn.ntmps) (hE : A.E = L.map (·.1)) (hk : nodup (keep.map (·.1)) = true)
  (hl : ∀ k, S k = true -> hasS k code = true -> FA P A S k (stdF P A S) code [] (endQ P A fn val keep ren fz))
  (h : AXZ P A S fn code as (AD L) val keep ren fz) : FnT P g as (AD L) val keep := by
 refine ⟨K3 hf hname hb, λ B ι w vs ha hH => ?_⟩
 refine yP hf hb ?_
 have hE' : ∀ i, (AD L).dom i -> i ∈ A.E := λ i hi => by
  rw [hE]
  unfold Heap.dom AD at hi
  cases hg : JG L i with
  | none => exact absurd (by simp only [hg]) hi
  | some o => exact List.mem_map.2 ⟨_, Lt hg, rfl⟩
 have hc := BDT hΓ hI hm code [] _ _ ⟨B, ι, AD L, w, fn.ntmps, none, true⟩ hn.1.symm ⟨rfl, rfl, hE'⟩ hl h B ι _ w (D7 ha hn.2 hH)
 refine Code.wpIn_mono (λ e a w' hq => ?_) hc
 obtain ⟨B', ι', σ', hr, hR⟩ := hq
 have fin : (resC P fn σ' λ v => XN A.E fz ren ⟨[(0, val)], keep⟩ ⟨λ _ => v, σ'.H⟩) -> LeavesInM Fence.wide 0 P fn a.tmps (λ e w' => ∃ v H', e = .returned v /\ Ui H' keep /\ XC B ι (AD L) w H' val v w') a.defers .returning w' := λ hr => by
  refine P8 hR (AIJ hr) λ w2 v val' m2 h2 h3 => ?_
  obtain ⟨B2, q1, q2, _⟩ := Moved.subF hE' h2 m2
  refine ⟨v, Uo keep, rfl, Ya _ _ (RW hk) (λ _ h => h), B2, _, q1, ?_⟩
  have := q2 0 v h3
  simpa [LU] using this
 cases e with
 | normal => exact fin hr
 | ret => exact fin hr
 | _ => exact hr.elim
attribute [irreducible] FA vcS AXZ
end Go.Sym
