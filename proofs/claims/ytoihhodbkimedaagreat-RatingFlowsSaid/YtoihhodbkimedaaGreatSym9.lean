/- A range over a function: the iterator's text reckoned, with the loop's body in place of yield. -/
import Derived.Test.YtoihhodbkimedaaGreatSym8
set_option linter.unusedVariables false
set_option linter.unusedSimpArgs false
namespace Go.Sym
variable {P : Program} {B B' : KN} {ι ι' : Nat -> Pl} {H H' : Heap} {D D' : Nat -> Prop} {w w' : World} {c : Ctx} {σ σ' : AState}
structure AnnI where
  base : Nat -> Nat
  mt : Nat -> Bool := λ _ => false
  Γ : FuncId -> Option Spec
  loops : Nat -> Option Ui := λ _ => none
  /-- the same, by the measures of the loops around, from the inmost one -/
  inner : List Nat -> Nat -> Option Ui := λ _ _ => none
  pack : Nat -> Option Pack := λ _ => none
  E : List Nat
  n : Nat
def AnnI.loopAt (A : AnnI) (gs : List Nat) (k : Nat) : Option Ui := match A.inner gs k with
  | some L => some L
  | none => A.loops k
structure Susp where
  c : Ctx
  sl1 : Nat -> AVal
  tmps : Array Value
  Ds : List Nat
  l : Nat
  lp : LoopState -> Option Code -> Loop
def UR : Exit -> Code
  | .exit id => .exit id
  | _ => .ret
def stOf : Option Exit -> LoopState
  | none => .ready
  | some _ => .done
structure BaseI (S : Susp) (m : Option Exit) (B : KN) (ι : Nat -> Pl) (H : Heap) (w : World) : Prop where
  mv : Moved S.c.B0 S.c.ι0 S.c.H0 S.c.w0 B ι H w
  susp : ∀ t, VRel B ι H.dom (S.sl1 t) (S.tmps.getD t undef)
  marks : ∀ D ∈ S.Ds, S.c.w0.heap.size <= D /\ Quiet D (.deferred (some [])) ι H w
  lge : S.c.w0.heap.size <= S.l
  lp : Quiet S.l (.loop (S.lp (stOf m) (m.map UR))) ι H w
theorem BaseI.moved {S : Susp} {m : Option Exit} (h : BaseI S m B ι H w) (hm : Moved B ι H w B' ι' H' w') : BaseI S m B' ι' H' w' :=
  ⟨h.mv.trans hm, λ t => hm.vrel (h.susp t), λ D hD => ⟨(h.marks D hD).1, (h.marks D hD).2.moved hm⟩, h.lge, h.lp.moved hm⟩
theorem BaseI.put {S : Susp} {m m' : Option Exit} (h : BaseI S m B ι H w) (h' : w' = w.putObj S.l (.loop (S.lp (stOf m') (m'.map UR)))) : BaseI S m' B ι H w' := by
  subst h'
  refine ⟨h.mv.put h.lp (λ _ _ _ h => by cases h) h.lge _, h.susp, λ D hD => ⟨(h.marks D hD).1, (h.marks D hD).2.put_other λ he => ?_⟩, h.lge, h.lp.put_same _⟩
  have h1 := (h.marks D hD).2.here
  rw [<- he, h.lp.here] at h1
  cases h1
structure RelI (S : Susp) (n : Nat) (m : Option Exit) (B : KN) (ι : Nat -> Pl) (σ : AState) (a : Act) (w : World) : Prop where
  slots : ∀ t, VRel B ι σ.H.dom (σ.sl t) (a.tmps.getD t undef)
  size : a.tmps.size = n
  nodef : a.defers = []
  base : BaseI S m B ι σ.H w
theorem RelI.tmp {S : Susp} {n : Nat} {m : Option Exit} {a : Act} (h : RelI S n m B ι σ a w) : Rel ⟨B, ι, σ.H, w, n, none, false⟩ B ι σ a w :=
  ⟨h.slots, h.size, ⟨[], h.nodef, λ _ => rfl, List.nodup_nil, λ D hD => by cases hD⟩, Moved.refl h.base.mv.heap⟩
theorem RelI.of {S : Susp} {n : Nat} {m : Option Exit} {a a' : Act} (h : RelI S n m B ι σ a w) (h' : Rel ⟨B, ι, σ.H, w, n, none, false⟩ B' ι' σ' a' w') : RelI S n m B' ι' σ' a' w' := by
  obtain ⟨Ds, h1, h2, _⟩ := h'.defers
  rw [h2 rfl] at h1
  exact ⟨h'.slots, h'.size, h1, h.base.moved h'.mv⟩
def CodeI (P : Program) (S : Susp) (n : Nat) (code : Code) (Q : Exit -> Option Exit -> AState -> Prop) (m : Option Exit) (σ : AState) : Prop :=
  ∀ B ι a w, RelI S n m B ι σ a w -> code.wpIn (xR none) 0 P (λ e a' w' => ∃ B' ι' m' σ', Q e m' σ' /\ RelI S n m' B' ι' σ' a' w') a w
section
variable {S : Susp} {n : Nat} {m : Option Exit} {Q Q' : Exit -> Option Exit -> AState -> Prop}
theorem CodeI.mono {code : Code} (h : CodeI P S n code Q m σ) (hq : ∀ e m σ, Q e m σ -> Q' e m σ) : CodeI P S n code Q' m σ :=
  λ B ι a w hR => wpIn_mono (h B ι a w hR) λ _ _ _ ⟨B', ι', m', σ', hQ, hR'⟩ => ⟨B', ι', m', σ', hq _ _ _ hQ, hR'⟩
theorem CodeI.of {code : Code} {Q1 : Exit -> AState -> Prop} (h : ∀ c : Ctx, c.n = n -> c.rd = none -> c.H0 = σ.H -> CodeE P c code Q1 σ) (hq : ∀ e σ', Q1 e σ' -> Q e m σ') : CodeI P S n code Q m σ :=
  λ B ι a w hR => wpIn_mono (h ⟨B, ι, σ.H, w, n, none, false⟩ rfl rfl rfl B ι a w hR.tmp) λ _ _ _ ⟨B', ι', σ', hQ, hR'⟩ => ⟨B', ι', m, σ', hq _ _ hQ, hR.of hR'⟩
def BMU (K : Option Exit -> AState -> Prop) (Q : Exit -> Option Exit -> AState -> Prop) : Exit -> Option Exit -> AState -> Prop
  | .normal, m, σ => K m σ
  | e, m, σ => Q e m σ
def BQV (id : Nat) (Q : Exit -> Option Exit -> AState -> Prop) : Exit -> Option Exit -> AState -> Prop
  | .exit id', m, σ => if id' = id then Q .normal m σ else Q (.exit id') m σ
  | e, m, σ => Q e m σ
theorem CodeI.seq {x y : Code} (h : CodeI P S n x (BMU (CodeI P S n y Q) Q) m σ) : CodeI P S n (.seq x y) Q m σ := by
  intro B ι a w hR
  refine wpIn_seq (wpIn_mono (h B ι a w hR) λ e a w hq => ?_)
  obtain ⟨B', ι', m', σ', hq, hR'⟩ := hq
  cases e with
  | normal => exact hq B' ι' a w hR'
  | _ => exact ⟨B', ι', m', σ', hq, hR'⟩
theorem CodeI.cond {x : Operand} {t e : Code} {b : Bool} (hx : AO σ.sl x = .bool b) (ht : b = true -> CodeI P S n t Q m σ) (he : b = false -> CodeI P S n e Q m σ) : CodeI P S n (.cond x t e) Q m σ := by
  intro B ι a w hR
  have hv := DS hR.slots x
  rw [hx] at hv
  exact wpIn_cond_split hv.d_inv.v_inv (λ h => ht h B ι a w hR) (λ h => he h B ι a w hR)
theorem CodeI.block {id : Nat} {x : Code} (h : CodeI P S n x (BQV id Q) m σ) : CodeI P S n (.block id x) Q m σ := by
  intro B ι a w hR
  refine wpIn_block (wpIn_mono (h B ι a w hR) λ e a w hq => ?_)
  obtain ⟨B', ι', m', σ', hq, hR'⟩ := hq
  cases e with
  | exit id' =>
    simp only [BQV] at hq
    simp only [Exit.inBlock]
    split
    · rename_i he; rw [if_pos he] at hq; exact ⟨B', ι', m', σ', hq, hR'⟩
    · rename_i he; rw [if_neg he] at hq; exact ⟨B', ι', m', σ', hq, hR'⟩
  | _ => exact ⟨B', ι', m', σ', hq, hR'⟩
theorem CodeI.loop {x : Code} (I : Nat -> AState -> Prop) (k : Nat) (h0 : I k σ) (round : ∀ k σ, I k σ -> CodeI P S n x (BMU (λ m' σ' => m' = none /\ ∃ j, j < k /\ I j σ') Q) none σ) : CodeI P S n (.loop x) Q none σ := by
  intro B ι a w hR
  refine wpIn_loop_ghost (λ k a w => ∃ B ι σ, I k σ /\ RelI S n none B ι σ a w) k ⟨B, ι, σ, h0, hR⟩ ?_
  rintro k a w ⟨B, ι, σ, hI, hR⟩
  refine wpIn_mono (round k σ hI B ι a w hR) λ e a w hq => ?_
  obtain ⟨B', ι', m', σ', hq, hR'⟩ := hq
  cases e with
  | normal => obtain ⟨rfl, j, hj, hI⟩ := hq; exact ⟨j, hj, B', ι', σ', hI, hR'⟩
  | _ => exact ⟨B', ι', m', σ', hq, hR'⟩
variable {E : List Nat}
theorem BaseI.keep {p : Nat -> Bool} (hS : ∀ t, PK p (S.sl1 t) = true) (h : BaseI S m B ι H w) (hB : ∀ b c, B b = some c -> B' b = some c) (hm : Moved S.c.B0 S.c.ι0 S.c.H0 S.c.w0 B' ι' H' w) (hp : ∀ i, p i = true -> H'.dom i /\ ι' i = ι i)
    (hl : ∀ i o, H' i = .live o -> ∃ j o', (ι' i).b = (ι j).b /\ H j = .live o') : BaseI S m B' ι' H' w := by
  have q : ∀ {b x}, Quiet b x ι H w -> Quiet b x ι' H' w := λ hq => ⟨hq.here, λ i o hi => by obtain ⟨j, o', h1, h2⟩ := hl i o hi; rw [h1]; exact hq.sep _ _ h2⟩
  exact ⟨hm, λ t => VRel.keep (ι := ι) (D := H.dom) hp _ _ (hS t) ((h.susp t).mono hB λ i hi => ⟨hi, rfl⟩), λ D hD => ⟨(h.marks D hD).1, q (h.marks D hD).2⟩, h.lge, q h.lp⟩
theorem RelI.subF {fz : List Nat} {l : List (Nat × Nat)} {s : ST} {a : Act} (hE : ∀ i, S.c.H0.dom i -> i ∈ E) (hS : ∀ t, PK (λ i => E.contains i) (S.sl1 t) = true) (h : BU (LI E fz l s σ)) (hR : RelI S n m B ι σ a w) :
    ∃ B', RelI S n m B' (λ i => ι (DO l i)) s.st a w := by
  obtain ⟨B', h1, h2, h3, h4, h5⟩ := Moved.subF hE h hR.base.mv
  exact ⟨B', λ t => h2 t _ (hR.slots t), hR.size, hR.nodef, hR.base.keep hS h4 h1 (λ i hi => by
    obtain ⟨h6, h7⟩ := h5 i (by simpa using hi)
    exact ⟨h6, by show ι (DO l i) = ι i; rw [h7]⟩) λ i o hi => by obtain ⟨o', ho⟩ := h3 i o hi; exact ⟨_, o', rfl, ho⟩⟩
theorem RelI.pack {p : Pack} {a : Act} (hE : ∀ i, S.c.H0.dom i -> i ∈ E) (hS : ∀ t, PK (λ i => E.contains i) (S.sl1 t) = true) (hok : BAA p E (HL p σ) = true) (hc : BK (BWY p σ)) (hR : RelI S n m B ι σ a w) :
    ∃ B', RelI S n m B' ι (HL p σ).st a w := by
  obtain ⟨B', h1, h2, h3, h4, h5⟩ := Moved.pack hE hok hc hR.base.mv
  exact ⟨B', λ t => h2 t _ (hR.slots t), hR.size, hR.nodef, hR.base.keep hS h4 h1 (λ i hi => ⟨h5 i (by simpa using hi), rfl⟩) λ i o hi => by obtain ⟨o', ho⟩ := h3 i o hi; exact ⟨i, o', rfl, ho⟩⟩
abbrev YK := List AVal -> Heap -> (Heap -> Prop) -> (Exit -> Heap -> Prop) -> Prop
def Qo (P : Program) (S : Susp) (yk : YK) : Prop := ∀ (as : List AVal) (H : Heap) (kn : Heap -> Prop) (ks : Exit -> Heap -> Prop), yk as H kn ks -> ∀ (B : KN) (ι : Nat -> Pl) (w : World) (vs : Array Value), OW B ι H.dom as vs -> BaseI S none B ι H w ->
  ∃ f tmps assign body, (Instr.yield S.l vs).run P w = .ok (.round S.l f tmps assign body) w /\ RoundIn (xR none) 0 P S.l f tmps assign body w λ e w' =>
    ∃ B' ι' H', (∀ a y, VRel B ι H.dom a y -> VRel B' ι' H'.dom a y) /\ ((e = .returned (.bool true) /\ kn H' /\ BaseI S none B' ι' H' w') ∨ ∃ x, e = .returned (.bool false) /\ ks x H' /\ BaseI S (some x) B' ι' H' w')
def ASU (ops : Array Oper) (sl : Nat -> AVal) (j : Nat) (want : Bool) : Option Bool := match (ops[j]?).bind (·.dst) with
  | some t => match sl t with
    | .d (.v (.bool b)) => some (if want then b else !b)
    | .d (.v (.tuple _)) => some false
    | _ => none
  | none => none
theorem BKI {ops : Array Oper} {sl : Nat -> AVal} {o : Oper} {j : Nat} {want g : Bool} {a : Act} (hg : o.guard = some (j, want)) (h : ASU ops sl j want = some g) (hs : ∀ t, VRel B ι D (sl t) (a.tmps.getD t undef)) :
    Region.wanted o (yielded ops a.tmps) = g := by
  unfold ASU at h
  simp only [Region.wanted, hg]
  split at h
  · rename_i t ht
    have hv := hs t
    have hget : a.tmps.getD t undef = (a.tmps[t]?).getD undef := by simp
    split at h
    · rename_i b hb
      cases h
      rw [hb] at hv
      rw [(AUC (a := a) ht).1 _ hv.d_inv.v_inv]
      cases want <;> cases b <;> rfl
    · rename_i x hb
      cases h
      rw [hb] at hv
      have h1 := hv.d_inv.v_inv
      have : yielded ops a.tmps j = none := by
        simp only [yielded, ht, Option.bind_some]
        rw [hget] at h1
        cases hq : a.tmps[t]? with
        | none => rfl
        | some y => rw [hq] at h1; simp at h1; subst h1; rfl
      rw [this]; rfl
    · cases h
  · cases h
def BLI (P : Program) (A : AnnI) (l : Nat) (yk : YK) (mt : Bool) (r : Nat) (o : Oper) (K : Option Exit -> AState -> Prop) (m : Option Exit) (σ : AState) : Prop := match o.op with
  | .call ⟨.value f, args, _⟩ => match AO σ.sl f with
    | .fn (.yield l') [] [] => match m with
      | none => andK [l' = l] (yk (args.toList.map (AO σ.sl)) σ.H (λ H' => K none ⟨WB σ.sl o.dst (.bool true), H'⟩) (λ e H' => K (some e) ⟨WB σ.sl o.dst (.bool false), H'⟩))
      | some _ => False
    | fv => match BCC A.Γ r fv (args.toList.map (AO σ.sl)) σ.H with
      | some x => if VJ σ.H r then andK x.pre (K m (σ.app o.dst x.val x.upd)) else False
      | none => False
  | op => match opA P mt r (AO σ.sl) σ.H op with
    | some e => if isNone (σ.H r) then andK e.pre (K m (σ.app o.dst e.val e.upd)) else False
    | none => False
def refG (ops : Array Oper) (sl : Nat -> AVal) (j : Nat) (b : Bool) : Nat -> AVal := match (ops[j]?).bind (·.dst) with
  | some t => match sl t with
    | .d (.v (.bool _)) => WB sl (some t) (.bool b)
    | _ => sl
  | none => sl
theorem BZX {ops : Array Oper} {sl : Nat -> AVal} {j : Nat} {want g : Bool} (h : ASU ops sl j want = some g) (t' : Nat) {v : Value} (hv : VRel B ι D (sl t') v) : VRel B ι D (refG ops sl j (if g then want else !want) t') v := by
  unfold ASU at h
  unfold refG
  split at h
  · rename_i t ht
    simp only [ht]
    split at h
    · rename_i b hb
      cases h
      simp only [hb]
      have e : (if (if want = true then b else !b) = true then want else !want) = b := by cases want <;> cases b <;> rfl
      rw [e]
      by_cases he : t' = t
      · subst he
        rw [hb] at hv
        simpa [WB] using hv
      · simpa [WB, he] using hv
    · rename_i x hb
      simp only [hb]; exact hv
    · cases h
  · cases h
theorem BVS {b : Bool} {p q : Prop} : (bif b then p else q) = ((b = true -> p) /\ (b = false -> q)) := by cases b <;> simp
def runK (P : Program) (A : AnnI) (l : Nat) (yk : YK) (mt : Bool) (base : Nat) (ops : Array Oper) (K : Option Exit -> AState -> Prop) : List Oper -> Nat -> Option Exit -> AState -> Prop
  | [], _, m, σ => K m σ
  | o :: rest, k, m, σ => if BNA A.n o then match o.guard with
      | none => BLI P A l yk mt (base + 16 * k) o (runK P A l yk mt base ops K rest (k + 1)) m σ
      | some (j, want) => match ASU ops σ.sl j want with
        | some g => bif g then BLI P A l yk mt (base + 16 * k) o (runK P A l yk mt base ops K rest (k + 1)) m ⟨refG ops σ.sl j want, σ.H⟩ else runK P A l yk mt base ops K rest (k + 1) m (AState.app ⟨refG ops σ.sl j (!want), σ.H⟩ o.dst (.d (.v undef)) [])
        | none => False
    else False
theorem StepO.bare {ops : Array Oper} {mt : Bool} {r : Nat} {o : Oper} {val : AVal} {upd : List (Nat × HCell)} {touch : List Nat} (h : StepO P mt ops r σ { o with guard := none } val upd touch) {a : Act} (hR : RelI S n m B ι σ a w)
    (hdst : ∀ d, o.dst = some d -> d < n) {K : Act -> World -> Prop} {Q : Exit -> Act -> World -> Prop} (hK : ∀ B' ι' a' w', RelI S n m B' ι' (σ.app o.dst val upd) a' w' -> K a' w') : o.wpIn (xR none) 0 P a w K Q := by
  have := h.sound (Q := Q) hR.tmp hdst (K := K) λ B' ι' a' w' hR' => hK B' ι' a' w' (hR.of hR')
  simp only [Region.wanted, if_true] at this
  exact this
theorem BNU {A : AnnI} (hΓ : GOk P A.Γ) {yk : YK} (hy : Qo P S yk) {mt : Bool} {r : Nat} {o : Oper} {K : Option Exit -> AState -> Prop} (h : BLI P A S.l yk mt r o K m σ) (hdst : ∀ d, o.dst = some d -> d < n)
    {a : Act} (hR : RelI S n m B ι σ a w) {KW : Act -> World -> Prop} {Q : Exit -> Act -> World -> Prop} (hK : ∀ B' ι' m' σ' a' w', K m' σ' -> RelI S n m' B' ι' σ' a' w' -> KW a' w') : o.wpIn (xR none) 0 P a w KW Q := by
  unfold BLI at h
  split at h
  · rename_i f args ats ho
    split at h
    · rename_i l' hf
      split at h
      · obtain ⟨h1, h2⟩ := GC h
        have h1 : l' = S.l := h1
        subst h1
        have hfv := DS hR.slots f
        rw [hf] at hfv
        have hfe : a.eval f = .func (.yield S.l) #[] #[] := by
          generalize a.eval f = v at hfv
          cases hfv with
          | fn hx hy h1 h2 =>
            rename_i xs ys
            have e1 : xs = #[] := by simpa using hx
            have e2 : ys = #[] := by simpa using hy
            subst e1; subst e2; rfl
        have hA : OW B ι σ.H.dom (args.toList.map (AO σ.sl)) (args.map a.eval) := ⟨by simp, λ j x y hx hy => by
          obtain ⟨z, hz, rfl⟩ := Fz hx
          rw [Array.getElem?_toList] at hz
          simp [hz] at hy
          subst hy; exact DS hR.slots z⟩
        obtain ⟨fn, tmps, assign, body, hyr, hround⟩ := hy _ _ _ _ h2 B ι w _ hA hR.base
        refine ⟨KU o a _, ?_⟩
        rw [Oper.semAt_eq _ _ _ (by rw [ho]; exact λ _ h => by cases h)]
        have hrun : (execOp a.eval o).run P w = .ok (.round S.l fn tmps assign body) w := by
          simp only [execOp, ho, resolve, hfe, Deferred.ofValue, invoke, Sem.run_bind, Sem.run_pure, Result.andThen_ok]
          simpa using hyr
        rw [hrun, Oper.uponIn_round]
        refine ⟨(λ h => by cases h), RoundIn.mono hround λ e w' hh => ?_⟩
        obtain ⟨B', ι', H', ht, hh⟩ := hh
        have put : ∀ b m', BaseI S m' B' ι' H' w' -> RelI S n m' B' ι' ⟨WB σ.sl o.dst (.bool b), H'⟩ (a.put o.dst (.bool b)) w' := λ b m' hb =>
          ⟨λ t => Vq (λ t => ht _ _ (hR.slots t)) (λ d hd => by rw [hR.size]; exact hdst d hd) (.d (.v _)) t, by cases o.dst <;> simp [Act.put, hR.size], by cases o.dst <;> simp [Act.put, hR.nodef], hb⟩
        rcases hh with ⟨rfl, h3, h4⟩ | ⟨x, rfl, h3, h4⟩
        · exact hK _ _ _ _ _ _ h3 (put true _ h4)
        · exact hK _ _ _ _ _ _ h3 (put false _ h4)
      · exact h.elim
    · split at h
      · rename_i x hx
        split at h
        · rename_i hfr
          obtain ⟨h1, h2⟩ := GC h
          obtain ⟨g, first, caps, he, hc⟩ := Co hΓ hx
          have mp : ∀ (l : List Nat), (l.map λ i => (i, σ.H i)).map (·.1) = l := λ l => by
            induction l with
            | nil => rfl
            | cons a l ih => simp only [List.map_cons, ih]
          exact StepO.bare (ops := #[]) (mt := mt) (.call (f := f) (args := args) (ats := ats) rfl ho he (hc h1) (Cq _ _) (QQ hfr)) hR hdst λ B' ι' a' w' hR' => hK _ _ _ _ _ _ h2 hR'
        · exact h.elim
      · exact h.elim
  · split at h
    · rename_i e he
      split at h
      · rename_i hfr
        obtain ⟨h1, h2⟩ := GC h
        exact StepO.bare (ops := #[]) (mt := mt) (.op rfl he h1 (RF hfr)) hR hdst λ B' ι' a' w' hR' => hK _ _ _ _ _ _ h2 hR'
      · exact h.elim
    · exact h.elim
theorem gE {A : AnnI} (hΓ : GOk P A.Γ) {yk : YK} (hy : Qo P S yk) (hn : A.n = n) {mt : Bool} {base : Nat} {ops : Array Oper} {K : Option Exit -> AState -> Prop} (hK : ∀ m σ, K m σ -> Q .normal m σ) : ∀ (l : List Oper) (k : Nat) (m : Option Exit) (σ : AState), runK P A S.l yk mt base ops K l k m σ ->
    ∀ B ι a w, RelI S n m B ι σ a w -> wpListIn (xR none) 0 P ops (λ e a' w' => ∃ B' ι' m' σ', Q e m' σ' /\ RelI S n m' B' ι' σ' a' w') l a w
  | [], _, m, σ, h, B, ι, a, w, hR => ⟨B, ι, m, σ, hK _ _ h, hR⟩
  | o :: l, k, m, σ, h, B, ι, a, w, hR => by
    simp only [runK] at h
    split at h
    · rename_i hd
      have hdst : ∀ d, o.dst = some d -> d < n := λ d h => hn ▸ jA hd d h
      have go : ∀ σ, RelI S n m B ι σ a w -> BLI P A S.l yk mt (base + 16 * k) o (runK P A S.l yk mt base ops K l (k + 1)) m σ -> o.wpIn (xR none) 0 P a w (wpListIn (xR none) 0 P ops (λ e a' w' => ∃ B' ι' m' σ', Q e m' σ' /\ RelI S n m' B' ι' σ' a' w') l) (λ e a' w' => ∃ B' ι' m' σ', Q e m' σ' /\ RelI S n m' B' ι' σ' a' w') :=
        λ σ hR h => BNU hΓ hy h hdst hR λ B' ι' m' σ' a' w' h1 h2 => gE hΓ hy hn hK l (k + 1) m' σ' h1 B' ι' a' w' h2
      unfold wpListIn
      split at h
      · rename_i hg
        simp only [Region.wanted, hg, if_true]
        exact go σ hR h
      · rename_i j want hg
        split at h
        · rename_i g hgd
          rw [BKI hg hgd hR.slots]
          have hR2 : RelI S n m B ι ⟨refG ops σ.sl j (if g then want else !want), σ.H⟩ a w := ⟨λ t => BZX hgd t (hR.slots t), hR.size, hR.nodef, hR.base⟩
          cases g with
          | true => simp only [if_true]; exact go _ hR2 h
          | false =>
            simp only [Bool.false_eq_true, if_false]
            refine ⟨KU o a _, gE hΓ hy hn hK l (k + 1) m _ h B ι _ w ?_⟩
            exact ⟨λ t => Vq hR2.slots (λ d hd => by rw [hR.size]; exact hdst d hd) (.d (.v _)) t, by cases o.dst <;> simp [Act.put, hR.size], by cases o.dst <;> simp [Act.put, hR.nodef], hR.base⟩
        · exact h.elim
    · exact h.elim
def vcI (P : Program) (A : AnnI) (l : Nat) (yk : YK) : Code -> List Nat -> (Exit -> Option Exit -> AState -> Prop) -> Option Exit -> AState -> Prop
  | .skip, _, Q, m, σ => Q .normal m σ
  | .label _, _, Q, m, σ => Q .normal m σ
  | .exit id, _, Q, m, σ => Q (.exit id) m σ
  | .ret, _, Q, m, σ => Q .ret m σ
  | .seq a b, gs, Q, m, σ => vcI P A l yk a gs (BMU (vcI P A l yk b gs Q) Q) m σ
  | .cond x t e, gs, Q, m, σ => match AO σ.sl x with
    | .d (.v (.bool b)) => bif b then vcI P A l yk t gs Q m σ else vcI P A l yk e gs Q m σ
    | _ => False
  | .block id b, gs, Q, m, σ => vcI P A l yk b gs (BQV id Q) m σ
  | .loop b, gs, Q, m, σ => match m, A.loopAt gs (Yr b) with
    | none, some L => Lu A.E (·.at1) σ (λ s a => s.inv a) L /\
        allS (λ s => ∀ a, s.inv a -> vcI P A l yk b (s.meas a :: gs) (BMU (λ m' σ' => match m' with
          | none => Lu A.E (·.at2) σ' (λ s' a' => s'.inv a' /\ s'.meas a' < s.meas a) L
          | some _ => False) Q) none (s.T a).st) L
    | _, _ => False
  | .region id ops draw, _, Q, m, σ => match draw with
    | true => Fs P A.Γ (A.mt id) (A.base id) A.n ops true σ λ σ' => Yz (A.pack id) A.E σ' (Q .normal m)
    | false => runK P A l yk (A.mt id) (A.base id) ops (λ m' σ' => Yz (A.pack id) A.E σ' (Q .normal m')) ops.toList 0 m σ
  | _, _, _, _, _ => False
theorem BYK {A : AnnI} (hΓ : GOk P A.Γ) (hm : P.follows .mixedOrders = true) {yk : YK} (hy : Qo P S yk) (hn : A.n = n) (hE : ∀ i, S.c.H0.dom i -> i ∈ A.E) (hS : ∀ t, PK (λ i => A.E.contains i) (S.sl1 t) = true) :
    ∀ (code : Code) (gs : List Nat) (Q : Exit -> Option Exit -> AState -> Prop) (m : Option Exit) (σ : AState), vcI P A S.l yk code gs Q m σ -> CodeI P S n code Q m σ := by
  have pk : ∀ {id : Nat} {Q : Exit -> Option Exit -> AState -> Prop} {m : Option Exit} {σ : AState} {B : KN} {ι : Nat -> Pl} {a : Act} {w : World}, Yz (A.pack id) A.E σ (Q .normal m) -> RelI S n m B ι σ a w -> ∃ B' ι' m' σ', Q .normal m' σ' /\ RelI S n m' B' ι' σ' a w := λ {id Q m σ B ι a w} h hR => by
    unfold Yz at h
    split at h
    · exact ⟨B, ι, m, σ, h, hR⟩
    · split at h
      · rename_i p hp hok
        obtain ⟨h1, h2⟩ := GC h
        obtain ⟨B', hR'⟩ := hR.pack hE hS hok h1
        exact ⟨B', ι, m, _, h2, hR'⟩
      · exact h.elim
  intro code
  induction code with
  | skip => intro gs Q m σ h B ι a w hR; exact wpIn_skip ⟨B, ι, m, σ, h, hR⟩
  | label l => intro gs Q m σ h B ι a w hR; exact wpIn_label ⟨B, ι, m, σ, h, hR⟩
  | exit id => intro gs Q m σ h B ι a w hR; exact wpIn_exit ⟨B, ι, m, σ, h, hR⟩
  | ret => intro gs Q m σ h B ι a w hR; exact wpIn_ret ⟨B, ι, m, σ, h, hR⟩
  | seq a b iha ihb =>
    intro gs Q m σ h
    refine .seq (CodeI.mono (iha gs _ m σ h) λ e m σ' hq => ?_)
    cases e with
    | normal => exact ihb gs Q m σ' hq
    | _ => exact hq
  | cond x t e iht ihe =>
    intro gs Q m σ h
    simp only [vcI] at h
    split at h
    · rename_i b hb
      rw [BVS] at h; exact .cond hb (λ hb => iht gs Q m σ (h.1 hb)) λ hb => ihe gs Q m σ (h.2 hb)
    · exact h.elim
  | block id b ih => intro gs Q m σ h; exact .block (ih gs _ m σ h)
  | loop b ih =>
    intro gs Q m σ h
    simp only [vcI] at h
    split at h
    · rename_i L hL
      obtain ⟨h0, h3⟩ := h
      obtain ⟨s, hs, a, h1, h2⟩ := KL h0
      refine .loop (λ k σ => ∃ l fz s a, s ∈ L /\ BU (LI A.E fz l (s.T a) σ) /\ s.inv a /\ s.meas a = k) (s.meas a) ⟨_, _, s, a, hs, h1, h2, rfl⟩ ?_
      rintro k σ' ⟨l, fz, s, a, hs, h4, h5, rfl⟩ B ι act w hR
      obtain ⟨B', hR'⟩ := hR.subF hE hS h4
      refine wpIn_mono (ih _ _ _ _ (Tb h3 s hs a h5) B' _ act w hR') λ e a' w' hq => ?_
      obtain ⟨B2, ι2, m2, σ2, hq, hR2⟩ := hq
      refine ⟨B2, ι2, m2, σ2, ?_, hR2⟩
      cases e with
      | normal =>
        simp only [BMU] at hq
        cases m2 with
        | none => obtain ⟨s', q0, a', q1, q2, q3⟩ := KL hq; exact ⟨rfl, s'.meas a', q3, _, _, s', a', q0, q1, q2, rfl⟩
        | some x => exact hq.elim
      | _ => exact hq
    · exact h.elim
  | scope b ih => intro gs Q m σ h; exact h.elim
  | region id ops draw =>
    intro gs Q m σ h
    cases draw with
    | true =>
      simp only [vcI] at h
      intro B ι a w hR
      have h1 : CodeI P S n (.region id ops true) (λ e m' σ' => e = .normal /\ Yz (A.pack id) A.E σ' (Q .normal m')) m σ :=
        CodeI.of (Q1 := λ e σ' => e = .normal /\ Yz (A.pack id) A.E σ' (Q .normal m)) (λ c h1 h2 h3 => Yq (id := id) hΓ hm (by rw [h1, <- hn]; exact vP (λ σ' hk => ⟨rfl, hk⟩) h)) λ e σ' h => h
      refine wpIn_mono (h1 B ι a w hR) λ e a' w' hq => ?_
      obtain ⟨B', ι', m', σ', ⟨rfl, hp⟩, hR'⟩ := hq
      exact pk hp hR'
    | false =>
      simp only [vcI] at h
      intro B ι a w hR
      have := wpIn_region_list (id := id) (gE (Q := λ e m' σ' => e = .normal /\ Yz (A.pack id) A.E σ' (Q .normal m')) hΓ hy hn (λ m σ h => ⟨rfl, h⟩) _ _ _ _ h B ι a w hR)
      refine wpIn_mono this λ e a' w' hq => ?_
      obtain ⟨B', ι', m', σ', ⟨rfl, hp⟩, hR'⟩ := hq
      exact pk hp hR'
  | rangeFunc => intro gs Q m σ h; exact h.elim
  | goto => intro gs Q m σ h; exact h.elim
  | refuse => intro gs Q m σ h; exact h.elim
end
end Go.Sym

namespace Go.Sym
variable {P : Program} {B B' : KN} {ι ι' : Nat -> Pl} {H H' : Heap} {D : Nat -> Prop} {w w' : World} {c : Ctx} {σ : AState} {Q : Exit -> AState -> Prop}
theorem Rel.frz {a : Act} {id kk n n2 : Nat} {get : Nat -> DVal} {dst : Option Tmp} (h : Rel c B ι σ a w) (hid : σ.H id = .live (.row kk n2 get)) (hv : ∀ d, dst = some d -> σ.sl d = .own id kk 0 n) (hn : n = n2) :
    ∃ B', Rel c B' ι ⟨WB σ.sl dst (.d (.list kk n get false)), CB σ.H id .dead⟩ a w := by
  obtain ⟨B', hm, hF⟩ := HS [id] h.mv.heap
  have hk : BQ σ.H [id] = CB σ.H id .dead := by simp only [BQ, hid]
  rw [hk] at hm
  have hf : FC σ.H [id] id = some (kk, n2, get) := by simp [FC, hid]
  refine ⟨B', ⟨λ t => ?_, h.size, ?_, h.mv.trans hm⟩⟩
  · simp only [AJU]
    split
    · rename_i hd
      have := h.slots t
      rw [hv t hd] at this
      exact .d (AWI hF hf rfl (by omega) (λ j _ => by rw [Nat.zero_add]; exact MO _) this)
    · exact hm.vrel (h.slots t)
  · obtain ⟨Ds, h1, h0, h2, h3⟩ := h.defers
    exact ⟨Ds, h1, h0, h2, λ D hD => ⟨(h3 D hD).1, (h3 D hD).2.moved hm⟩⟩
def BNF (P : Program) (Γ : FuncId -> Option Spec) (mt : Bool) (ops : Array Oper) (r : Nat) (o : Oper) (σ : AState) (K : AState -> Prop) : Prop := match ANA P Γ mt ops r σ o with
  | some s => andK (Jc σ.sl o ++ s.pre) (K (σ.app o.dst s.val s.upd))
  | none => False
def CPZ (P : Program) (Γ : FuncId -> Option Spec) (ops : Array Oper) (r : Nat) (o : Oper) (σ : AState) (K : AState -> Prop) : Prop := match ANA P Γ true ops r σ o with
  | some s => match o.dst, s.val with
    | some d, .own id kk 0 n => match CN σ.H s.upd id with
      | .live (.row k2 n2 get) => if Nat.beq kk k2 then andK (Jc σ.sl o ++ (s.pre ++ [n = n2])) (K ⟨WB σ.sl (some d) (.d (.list kk n get false)), CB (CN σ.H s.upd) id .dead⟩) else False
      | _ => False
    | _, _ => False
  | none => False
def CQQ (P : Program) (r : Nat) (o : Oper) (σ : AState) (K : AState -> Prop) : Prop := match o.op with
  | .lookup t m ix true => match CAZ P σ.H t (AO σ.sl m) (AO σ.sl ix) with
    | some (b, d, z, p) => andK p (bif b then K (σ.app o.dst (.d (.tup [d, .bool true])) []) else K (σ.app o.dst (.d (.tup [ofV z, .bool false])) []))
    | none => False
  | _ => False
def CQW (P : Program) (r : Nat) (o : Oper) (σ : AState) (K : AState -> Prop) : Prop := match o.op with
  | .buildSlice t len ps => match GO P r t len (ps.toList.map λ p => (p.1, AO σ.sl p.2)) with
    | some ⟨_, [(_, .live (.row k n get))], _⟩ => K (σ.app o.dst (.d (.list k n get true)) [])
    | _ => False
  | _ => False
def runM (P : Program) (Γ : FuncId -> Option Spec) (md : Nat -> Nat) (ops : Array Oper) (base n : Nat) (K : AState -> Prop) : List Oper -> Nat -> AState -> Prop
  | [], _, σ => K σ
  | o :: l, k, σ => if BNA n o && o.guard.isNone then match md k with
      | 0 => BNF P Γ false ops (base + 16 * k) o σ (runM P Γ md ops base n K l (k + 1))
      | 1 => BNF P Γ true ops (base + 16 * k) o σ (runM P Γ md ops base n K l (k + 1))
      | 3 => CQQ P (base + 16 * k) o σ (runM P Γ md ops base n K l (k + 1))
      | 4 => CQW P (base + 16 * k) o σ (runM P Γ md ops base n K l (k + 1))
      | _ => CPZ P Γ ops (base + 16 * k) o σ (runM P Γ md ops base n K l (k + 1))
    else False
theorem BMM {Γ : FuncId -> Option Spec} (hΓ : GOk P Γ) {mt : Bool} {ops : Array Oper} {r : Nat} {o : Oper} {K : AState -> Prop} (h : BNF P Γ mt ops r o σ K) : ∃ s : Stp, StepO P mt ops r σ o s.val s.upd s.touch /\ K (σ.app o.dst s.val s.upd) := by
  unfold BNF at h
  split at h
  · rename_i s hs
    obtain ⟨h1, h2⟩ := GC h
    obtain ⟨h3, h4⟩ := AV h1
    exact ⟨s, Qe hΓ hs h4 λ _ => h3, h2⟩
  · exact h.elim
theorem Rel.plain {ops : Array Oper} {o : Oper} {a : Act} {v : AVal} {y : Value} {w' : World} {K : Act -> World -> Prop} {Q : Exit -> Act -> World -> Prop} (h : Rel c B ι σ a w) (hg : o.guard = none) (hdst : ∀ d, o.dst = some d -> d < c.n) (hrun : Runs P a.eval o w y w') (hd : HQ B ι σ.H w (CN σ.H []) v y w')
    (hK : ∀ B' ι' a' w', Rel c B' ι' (σ.app o.dst v []) a' w' -> K a' w') : if Region.wanted o (yielded ops a.tmps) then o.wpIn (xR c.rd) 0 P a w K Q else (∀ f, o.about P w a.eval = some f -> (xR c.rd).fn f) /\ K (a.put o.dst undef) w := by
  simp only [Region.wanted, hg, if_true]
  obtain ⟨B', ι', hR'⟩ := h.app hd hdst
  refine ⟨KU o a _, ?_⟩
  rw [Oper.semAt_eq _ _ _ hrun.not_defer]
  rcases hrun with hrun | ⟨hrun, rfl⟩
  · rw [hrun]; exact hK B' ι' _ _ hR'
  · rw [hrun]; exact hK B' ι' _ _ hR'
theorem LU {Γ : FuncId -> Option Spec} (hΓ : GOk P Γ) {md : Nat -> Nat} {ops : Array Oper} {base : Nat} : ∀ (l : List Oper) (k : Nat) (σ : AState), runM P Γ md ops base c.n (Q .normal) l k σ -> ∀ B ι a w, Rel c B ι σ a w ->
    wpListIn (xR c.rd) 0 P ops (λ e a' w' => ∃ B' ι' σ', Q e σ' /\ Rel c B' ι' σ' a' w') l a w
  | [], _, σ, h, B, ι, _, _, hR => ⟨B, ι, σ, h, hR⟩
  | o :: l, k, σ, h, B, ι, a, w, hR => by
    unfold runM at h
    split at h
    case isFalse => exact h.elim
    rename_i hc
    simp only [Bool.and_eq_true] at hc
    have hd := jA hc.1
    have hg : o.guard = none := by
      cases hq : o.guard with
      | none => rfl
      | some q => rw [hq] at hc; exact absurd hc.2 (by simp)
    have step : ∀ {mt : Bool}, BNF P Γ mt ops (base + 16 * k) o σ (runM P Γ md ops base c.n (Q .normal) l (k + 1)) -> wpListIn (xR c.rd) 0 P ops (λ e a' w' => ∃ B' ι' σ', Q e σ' /\ Rel c B' ι' σ' a' w') (o :: l) a w := λ h => by
      obtain ⟨s, h1, h2⟩ := BMM hΓ h
      exact h1.sound hR hd λ B' ι' a' w' hR' => LU hΓ l (k + 1) _ h2 B' ι' a' w' hR'
    split at h
    · exact step h
    · exact step h
    · unfold CQQ at h
      split at h
      case h_2 => exact h.elim
      rename_i t m ix ho
      split at h
      case h_2 => exact h.elim
      rename_i b d z p hl
      obtain ⟨hp, h⟩ := GC h
      obtain ⟨v, hrun, h1, h2⟩ := BMX hl hp (DS hR.slots m) (DS hR.slots ix) hR.mv.heap
      have hr : Runs P a.eval o w (.tuple #[v, .bool b]) w := .inl (by simp only [execOp, ho, Sem.run_bind, hrun, Result.andThen_ok, Sem.run_pure])
      cases b with
      | true =>
        refine hR.plain hg hd hr ⟨B, ι, Moved.refl hR.mv.heap, .d (.tup rfl λ j x y hx hy => ?_)⟩ λ B' ι' a' w' hR' => LU hΓ l (k + 1) _ h B' ι' a' w' hR'
        match j with
        | 0 => simp at hx hy; subst hx; subst hy; exact h1 rfl
        | 1 => simp at hx hy; subst hx; subst hy; exact .v _
        | j + 2 => simp at hx
      | false =>
        refine hR.plain hg hd hr ⟨B, ι, Moved.refl hR.mv.heap, .d (.tup rfl λ j x y hx hy => ?_)⟩ λ B' ι' a' w' hR' => LU hΓ l (k + 1) _ h B' ι' a' w' hR'
        match j with
        | 0 => simp at hx hy; subst hx; subst hy; rw [h2 rfl]; exact BFE z
        | 1 => simp at hx hy; subst hx; subst hy; exact .v _
        | j + 2 => simp at hx
    · unfold CQW at h
      split at h
      case h_2 => exact h.elim
      rename_i t len ps ho
      split at h
      case h_2 => exact h.elim
      rename_i v0 r0 kk n get p0 hb
      obtain ⟨k', n', get', y, w', he, h1, h2⟩ := Jd (parts := ps.map λ x => (x.1, a.eval x.2)) hb hR.mv.heap (by simp) (λ j x y hx hy => by
        obtain ⟨z, hz, rfl⟩ := Fz hx
        rw [Array.getElem?_toList] at hz
        simp [hz] at hy
        subst hy
        exact ⟨rfl, DS hR.slots z.2⟩)
      simp only [Eff.mk.injEq, List.cons.injEq, Prod.mk.injEq, HCell.live.injEq, AObj.row.injEq, and_true] at he
      obtain ⟨_, ⟨_, rfl, rfl, rfl⟩, _⟩ := he
      exact hR.plain hg hd (.inl (by simp [execOp, ho, h1])) h2 λ B' ι' a' w' hR' => LU hΓ l (k + 1) _ h B' ι' a' w' hR'
    · unfold CPZ at h
      split at h
      case h_2 => exact h.elim
      rename_i s hs
      split at h
      case h_2 => exact h.elim
      rename_i d id kk n hdst hval
      split at h
      case h_2 => exact h.elim
      rename_i k2 n2 get hid
      split at h
      case isFalse => exact h.elim
      rename_i hkk
      rw [DD] at hkk
      subst hkk
      obtain ⟨h1, h2⟩ := GC h
      obtain ⟨h3, h4⟩ := AV h1
      obtain ⟨h5, h6⟩ := AV h4
      have st := Qe hΓ hs h5 λ _ => h3
      refine st.sound hR hd λ B' ι' a' w' hR' => ?_
      obtain ⟨B2, hR2⟩ := hR'.frz (dst := some d) (n := n) (get := get) (id := id) hid (λ d' hd' => by
        cases hd'
        simp only [AState.app, AJU, hdst, if_true]; exact hval) h6
      have e : (⟨WB (σ.app o.dst s.val s.upd).sl (some d) (.d (.list kk n get false)), CB (σ.app o.dst s.val s.upd).H id .dead⟩ : AState) = ⟨WB σ.sl (some d) (.d (.list kk n get false)), CB (CN σ.H s.upd) id .dead⟩ := by
        simp only [AState.app, hdst]
        congr 1
        funext t
        simp only [AJU]
        split <;> rfl
      rw [e] at hR2
      exact LU hΓ l (k + 1) _ h2 B2 ι' a' w' hR2
theorem BAU {Γ : FuncId -> Option Spec} (hΓ : GOk P Γ) {md : Nat -> Nat} {ops : Array Oper} {base id : Nat} (h : runM P Γ md ops base c.n (Q .normal) ops.toList 0 σ) : CodeE P c (.region id ops false) Q σ :=
  λ B ι a w hR => wpIn_region_list (LU hΓ ops.toList 0 σ h B ι a w hR)
end Go.Sym

namespace Go.Sym
variable {P : Program} {B B' : KN} {ι ι' : Nat -> Pl} {H H' : Heap} {D : Nat -> Prop} {w w' : World}
structure Ctr where
  α : Type
  xs : α -> List AVal
  L : α -> List (Nat × AObj) := λ _ => []
  val : α -> AVal
  keep : α -> List (Nat × HCell) := λ _ => []
  pre : α -> List Prop := λ _ => []
  /-- names whose objects the caller goes on to know as before -/
  ro : List Nat := []
def CWA (P : Program) (g : FuncId) (C : Ctr) : Prop := ∀ a, BK (C.pre a) -> FnT P g (C.xs a) (AC (C.L a)) (C.val a) (C.keep a)
def yS (F : Sr) (ρ : Nat -> Nat) (p : Nat -> Bool) (H : Heap) : List (Nat × AObj) -> Option (List Prop)
  | [] => some []
  | (i, o) :: r => Je (AGC F ρ p (.live o) (H (ρ i))) (yS F ρ p H r)
theorem iO {F : Sr} {ρ : Nat -> Nat} {p : Nat -> Bool} {H : Heap} : ∀ {l : List (Nat × AObj)}, BU (yS F ρ p H l) -> ∀ i o, (i, o) ∈ l -> ∃ o', H (ρ i) = .live o' /\ BU (Cj F ρ p o o')
  | [], _, i, o, h => by cases h
  | (j, x) :: r, h, i, o, hm => by
    obtain ⟨h1, h2⟩ := CJ h
    rcases List.mem_cons.1 hm with hm | hm
    · cases hm
      cases hq : H (ρ j) with
      | live o' => rw [hq] at h1; exact ⟨o', rfl, h1⟩
      | none => rw [hq] at h1; simp only [AGC] at h1; exact h1.elim
      | dead => rw [hq] at h1; simp only [AGC] at h1; exact h1.elim
    · exact iO h2 i o hm
def AZL : HCell -> Bool
  | .live (.row _ _ _) => true
  | _ => false
def noF : Sr := λ _ => none
def E7 (H : Heap) (ρ : Nat -> Nat) (L : List (Nat × AObj)) (ro : List Nat) : List (Nat × HCell) -> Option (List Prop)
  | [] => some []
  | (i, c) :: r => if ro.contains i then match H (ρ i), c with
      | .live o', .live o => if (DI L i).isSome then Je (Cj noF (λ j => j) (λ j => L.any λ x => Nat.beq (ρ x.1) j) o' (renO ρ o)) (E7 H ρ L ro r) else none
      | _, _ => none
    else E7 H ρ L ro r
theorem cH {H : Heap} {ρ : Nat -> Nat} {L : List (Nat × AObj)} {ro : List Nat} : ∀ {l : List (Nat × HCell)}, BU (E7 H ρ L ro l) -> ∀ i c, (i, c) ∈ l -> i ∈ ro -> ∃ o' o, H (ρ i) = .live o' /\ c = .live o /\ (DI L i).isSome = true /\ BU (Cj noF (λ j => j) (λ j => L.any λ x => Nat.beq (ρ x.1) j) o' (renO ρ o))
  | [], _, i, c, h, _ => by cases h
  | (j, x) :: r, h, i, c, hm, hi => by
    simp only [E7] at h
    rcases List.mem_cons.1 hm with hm1 | hm1
    · cases hm1
      rw [if_pos (by simpa using hi)] at h
      split at h
      · rename_i o' o h1
        split at h
        · rename_i h2
          exact ⟨o', o, h1, rfl, h2, (CJ h).1⟩
        · exact h.elim
      · exact h.elim
    · split at h
      · split at h
        · split at h
          · exact cH (CJ h).2 i c hm1 hi
          · exact h.elim
        · exact h.elim
      · exact cH h i c hm1 hi
theorem Moved.weakH {H1 H2 : Heap} (m : Moved B ι H w B' ι' H1 w') (hd : ∀ i, H2.dom i ↔ H1.dom i) (ho : ∀ i o, H2 i = .live o -> ∃ o1, H1 i = .live o1 /\ ∀ x, ORel B' ι' H1.dom (ι' i).cap o1 x -> ORel B' ι' H2.dom (ι' i).cap o x) : Moved B ι H w B' ι' H2 w' := by
  refine ⟨m.bm, m.bn, λ i hi => ⟨(hd i).2 (m.im i hi).1, (m.im i hi).2⟩, ⟨λ i o hi => ?_, λ i j o o' hi hj h => ?_, λ i o hi => ?_, m.heap.imm⟩, λ i o hi => ?_, m.frame, m.size, m.calm⟩
  · obtain ⟨o1, h1, h2⟩ := ho i o hi
    exact h2 _ (m.heap.obj i o1 h1)
  · obtain ⟨o1, h1, _⟩ := ho i o hi
    obtain ⟨o2, h2, _⟩ := ho j o' hj
    exact m.heap.inj i j o1 o2 h1 h2 h
  · obtain ⟨o1, h1, _⟩ := ho i o hi
    exact m.heap.sep i o1 h1
  · obtain ⟨o1, h1, _⟩ := ho i o hi
    exact m.own i o1 h1
def Ctr.keepW (C : Ctr) (a : C.α) : List (Nat × HCell) := (C.keep a).filter λ x => !C.ro.contains x.1
def Ctr.spec (C : Ctr) (dec : List AVal -> Heap -> Option (C.α × List (Nat × Nat) × List Nat)) : Spec := λ xs H r => match dec xs H with
  | none => none
  | some (a, l, fz) => if AFP (C.xs a) (C.L a) (C.val a) (C.keep a) (λ i => if (DI (C.L a) i).isSome then DO l i else r + i) r && nodup fz && fz.all (λ i => AZL (H i)) then
      match Je (FB (FC H fz) (λ i => if (DI (C.L a) i).isSome then DO l i else r + i) (λ i => (DI (C.L a) i).isSome) (C.xs a) xs)
          (Je (yS (FC H fz) (λ i => if (DI (C.L a) i).isSome then DO l i else r + i) (λ i => (DI (C.L a) i).isSome) (BQ H fz) (C.L a))
            (E7 (BQ H fz) (λ i => if (DI (C.L a) i).isSome then DO l i else r + i) (C.L a) C.ro (C.keep a))) with
      | some p => some ⟨fz ++ (C.L a).map λ x => DO l x.1, TT (λ i => if (DI (C.L a) i).isSome then DO l i else r + i) (C.val a), (fz.map λ i => (i, .dead)) ++ MB (λ i => if (DI (C.L a) i).isSome then DO l i else r + i) (C.keepW a), p ++ C.pre a⟩
      | none => none
    else none
theorem AFN : ∀ (u v : List (Nat × HCell)) (H : Heap), CN H (u ++ v) = CN (CN H u) v
  | [], _, _ => rfl
  | (i, c) :: u, v, H => by simp only [List.cons_append, CN]; exact AFN u v _
theorem cZ : ∀ (fz : List Nat) (H : Heap), fz.Nodup -> (∀ i ∈ fz, AZL (H i) = true) -> CN H (fz.map λ i => (i, .dead)) = BQ H fz
  | [], _, _, _ => rfl
  | i :: r, H, hn, hr => by
    have h1 := hr i (by simp)
    simp only [List.map_cons, CN, BQ]
    have hn' := List.nodup_cons.1 hn
    have h2 : ∀ j ∈ r, AZL (CB H i .dead j) = true := λ j hj => by
      rw [DE _ _ (show j ≠ i from λ he => hn'.1 (he ▸ hj))]
      exact hr j (by simp [hj])
    cases hq : H i with
    | live o => cases o with
      | row => simp only; exact cZ r _ hn'.2 h2
      | _ => rw [hq] at h1; cases h1
    | _ => rw [hq] at h1; cases h1
theorem PO : ∀ (ids : List Nat) {H : Heap} {i : Nat}, H i = .none -> BQ H ids i = .none
  | [], _, _, h => h
  | id :: r, H, i, h => by
    simp only [BQ]
    cases hq : H id with
    | live o => cases o with
      | row =>
        simp only
        refine PO r ?_
        rw [DE]
        · exact h
        · intro he; rw [he, hq] at h; cases h
      | _ => exact PO r h
    | _ => exact PO r h
theorem AFQ {fz : List Nat} (h : ∀ i ∈ fz, H' i = H i) : FC H' fz = FC H fz := by
  funext i
  unfold FC
  split
  · rename_i hi; rw [h i (by simpa using hi)]
  · rfl
theorem Pc : ∀ (fz : List Nat) {H H' : Heap} (i : Nat), fz.Nodup -> (∀ j ∈ fz, H' j = H j) -> (i ∉ fz -> H' i = H i) -> BQ H' fz i = BQ H fz i
  | [], _, _, i, _, _, h => h (by simp)
  | j :: r, H, H', i, hn, hf, h => by
    have hn' := List.nodup_cons.1 hn
    have e := hf j (by simp)
    simp only [BQ, e]
    have go : ∀ (K K' : Heap), (∀ k ∈ r, K' k = K k) -> (i ∉ r -> K' i = K i) -> BQ K' r i = BQ K r i := λ K K' h1 h2 => Pc r i hn'.2 h1 h2
    have up : ∀ x, BQ (CB H' j x) r i = BQ (CB H j x) r i := λ x => by
      refine go _ _ (λ k hk => ?_) (λ hi => ?_)
      · have hne : k ≠ j := λ he => hn'.1 (he ▸ hk)
        rw [DE _ _ hne, DE _ _ hne]; exact hf k (by simp [hk])
      · by_cases he : i = j
        · subst he; rw [DG, DG]
        · rw [DE _ _ he, DE _ _ he]; exact h (by simp [he, hi])
    have same : BQ H' r i = BQ H r i := go _ _ (λ k hk => hf k (by simp [hk])) λ hi => by
      by_cases he : i = j
      · subst he; exact e
      · exact h (by simp [he, hi])
    cases H j with
    | live o => cases o with
      | row => exact up _
      | _ => exact same
    | _ => exact same
theorem Ctr.spec_ok {C : Ctr} {g : FuncId} (h : CWA P g C) (dec : List AVal -> Heap -> Option (C.α × List (Nat × Nat) × List Nat)) : AG P g (C.spec dec) := by
  intro xs H r x hx hp
  unfold Ctr.spec at hx
  split at hx
  · cases hx
  · rename_i a l fz hd
    generalize hρ : (λ i => if (DI (C.L a) i).isSome then DO l i else r + i) = ρ at hx
    have hρL : ∀ i o, DI (C.L a) i = some o -> ρ i = DO l i := λ i o ho => by rw [<- hρ]; simp [ho]
    split at hx
    · rename_i hok
      simp only [Bool.and_eq_true, List.all_eq_true] at hok
      obtain ⟨⟨ok1, ok2⟩, ok3⟩ := hok
      have hnd := GQ ok2
      split at hx
      · rename_i p hc
        cases hx
        obtain ⟨hp1, hp2⟩ := AV hp
        have hc' : BU (Je (FB (FC H fz) ρ (λ i => (DI (C.L a) i).isSome) (C.xs a) xs) (Je (yS (FC H fz) ρ (λ i => (DI (C.L a) i).isSome) (BQ H fz) (C.L a)) (E7 (BQ H fz) ρ (C.L a) C.ro (C.keep a)))) := by rw [hc]; exact hp1
        obtain ⟨h1, h2⟩ := CJ hc'
        obtain ⟨h2, hro⟩ := CJ h2
        have hfn := h a hp2
        intro H' hcells hfresh
        have hfz : ∀ i ∈ fz, H' i = H i := λ i hi => hcells (i, H i) (List.mem_map.2 ⟨i, by simp [hi], rfl⟩)
        have hL : ∀ i o, DI (C.L a) i = some o -> H' (ρ i) = H (ρ i) := λ i o ho => by
          have hm := UL ho
          rw [hρL i o ho]
          exact hcells (DO l i, H (DO l i)) (List.mem_map.2 ⟨DO l i, List.mem_append_right _ (List.mem_map.2 ⟨(i, o), hm, rfl⟩), rfl⟩)
        refine ⟨hfn.1, λ B ι w vs ha hH => ?_⟩
        obtain ⟨B', hk, hF⟩ := HS fz hH
        rw [AFQ hfz] at hF
        have hdom : ∀ i, (DI (C.L a) i).isSome = true -> (AC (C.L a)).dom i := λ i hi => by
          unfold Heap.dom AC
          obtain ⟨o, ho⟩ := Option.isSome_iff_exists.1 hi
          rw [ho]; simp
        have hcall := FnT.at hfn ρ r ok1 (BQ H' fz) (λ i h3 h4 => PO fz (hfresh i h3 h4)) hk.heap (vs := vs)
          ⟨by rw [ha.1, HY h1], λ j x y hx hy => by
            obtain ⟨x', hx', hs⟩ := HT h1 hx
            exact PD hF hdom _ _ _ hs (ha.2 j _ y hx' hy)⟩
          (λ i o ho => by
            obtain ⟨o', h3, h4⟩ := iO h2 i o (UL ho)
            rw [<- Pc (H := H) (H' := H') fz (ρ i) hnd hfz λ _ => hL i o ho] at h3
            exact ⟨⟨o', h3⟩, VU hF hdom h4 (hH.obj _ _ (NA fz h3))⟩)
        refine Calls.mono hcall λ e w' hh => ?_
        obtain ⟨v, rfl, B2, ι2, h3, h4⟩ := hh
        rw [AFN, cZ fz H' hnd λ i hi => by rw [hfz i hi]; exact ok3 i hi]
        -- what the caller knows of the objects that are only read
        have hK : BQ H' fz = BQ H' fz := rfl
        have hemb := ok1
        simp only [AFP, Bool.and_eq_true, List.all_eq_true] at hemb
        obtain ⟨⟨⟨⟨⟨_, _⟩, e3⟩, e4⟩, _⟩, e6⟩ := hemb
        have hnk := GQ e6
        have hnw : ((C.keepW a).map λ x => ρ x.1).Nodup := (List.Sublist.map (λ x : Nat × HCell => ρ x.1) List.filter_sublist).nodup hnk
        have in1 : ∀ i c, (i, c) ∈ C.keep a -> CN (BQ H' fz) (MB ρ (C.keep a)) (ρ i) = renC ρ c := λ i c hi => QO _ hnk hi
        have in2 : ∀ i c, (i, c) ∈ C.keep a -> ¬ i ∈ C.ro -> CN (BQ H' fz) (MB ρ (C.keepW a)) (ρ i) = renC ρ c := λ i c hi hn => QO _ hnw (List.mem_filter.2 ⟨hi, by simpa using hn⟩)
        have out1 : ∀ j, (∀ i c, (i, c) ∈ C.keep a -> ρ i ≠ j) -> CN (BQ H' fz) (MB ρ (C.keep a)) j = BQ H' fz j := λ j hj => JX _ _ _ (by
          rw [ATM]; intro hm
          obtain ⟨⟨i, c⟩, q1, q2⟩ := List.mem_map.1 hm
          exact hj i c q1 q2)
        have out2 : ∀ j, (∀ i c, (i, c) ∈ C.keep a -> ¬ i ∈ C.ro -> ρ i ≠ j) -> CN (BQ H' fz) (MB ρ (C.keepW a)) j = BQ H' fz j := λ j hj => JX _ _ _ (by
          rw [ATM]; intro hm
          obtain ⟨⟨i, c⟩, q1, q2⟩ := List.mem_map.1 hm
          obtain ⟨q3, q4⟩ := List.mem_filter.1 q1
          exact hj i c q3 (by simpa using q4) q2)
        have inro : ∀ i c, (i, c) ∈ C.keep a -> i ∈ C.ro -> ∃ o' o, BQ H' fz (ρ i) = .live o' /\ c = .live o /\ CN (BQ H' fz) (MB ρ (C.keepW a)) (ρ i) = .live o' /\ BU (Cj noF (λ j => j) (λ j => (C.L a).any λ x => Nat.beq (ρ x.1) j) o' (renO ρ o)) := λ i c hi hr => by
          obtain ⟨o', o, q1, q2, q3, q4⟩ := cH hro i c hi hr
          obtain ⟨oL, hoL⟩ := Option.isSome_iff_exists.1 q3
          have q5 : BQ H' fz (ρ i) = .live o' := by rw [Pc (H := H) (H' := H') fz (ρ i) hnd hfz λ _ => hL i oL hoL]; exact q1
          refine ⟨o', o, q5, q2, ?_, q4⟩
          rw [out2]
          · exact q5
          · intro i' c' hi' hn' he
            exact hn' ((cV hnk hi' hi he).1 ▸ hr)
        have caseJ : ∀ j, (∃ i c, (i, c) ∈ C.keep a /\ ρ i = j) ∨ (∀ i c, (i, c) ∈ C.keep a -> ρ i ≠ j) := λ j => by
          by_cases hj : ∃ i c, (i, c) ∈ C.keep a /\ ρ i = j
          · exact .inl hj
          · exact .inr λ i c h1 h2 => hj ⟨i, c, h1, h2⟩
        have hd12 : ∀ j, (CN (BQ H' fz) (MB ρ (C.keepW a))).dom j ↔ (CN (BQ H' fz) (MB ρ (C.keep a))).dom j := λ j => by
          rcases caseJ j with ⟨i, c, hi, rfl⟩ | hn
          · have hcn : renC ρ c ≠ .none := by
              have := (e4 (i, c) hi).1.1
              cases c <;> simp [renC, rK] at this ⊢
            by_cases hr : i ∈ C.ro
            · obtain ⟨o', o, _, q2, q3, _⟩ := inro i c hi hr
              unfold Heap.dom; rw [q3, in1 i c hi]; simp [hcn]
            · unfold Heap.dom; rw [in1 i c hi, in2 i c hi hr]
          · unfold Heap.dom; rw [out1 j hn, out2 j λ i c hi _ => hn i c hi]
        have hF2 : Pg B2 B2 ι2 noF := ⟨λ _ _ h => h, λ id k m get h => by cases h⟩
        have hpd : ∀ j, ((C.L a).any λ x => Nat.beq (ρ x.1) j) = true -> (CN (BQ H' fz) (MB ρ (C.keepW a))).dom j := λ j hj => by
          obtain ⟨⟨i, o⟩, q1, q2⟩ := List.any_eq_true.1 hj
          have q2 : ρ i = j := Nat.eq_of_beq_eq_true q2
          obtain ⟨c, hcm⟩ := Option.isSome_iff_exists.1 (by
            have := e3 (i, o) q1
            exact this.1)
          rw [hd12, <- q2]
          unfold Heap.dom; rw [in1 i c (HE hcm)]
          have := (e4 (i, c) (HE hcm)).1.1
          cases c <;> simp [renC, rK] at this ⊢
        have h3' : Moved B' ι (BQ H' fz) w B2 ι2 (CN (BQ H' fz) (MB ρ (C.keepW a))) w' := by
          refine h3.weakH hd12 λ j o hj => ?_
          rcases caseJ j with ⟨i, c, hi, rfl⟩ | hn
          · by_cases hr : i ∈ C.ro
            · obtain ⟨o', o2, _, q2, q3, q4⟩ := inro i c hi hr
              rw [q3] at hj
              cases hj
              refine ⟨renO ρ o2, by rw [in1 i c hi, q2]; rfl, λ x hx => VU (ι := ι2) (ρ := λ j => j) hF2 hpd q4 hx⟩
            · rw [in2 i c hi hr] at hj
              exact ⟨o, by rw [in1 i c hi]; exact hj, λ x hx => hx.mono (λ _ _ h => h) λ i hi => ⟨(hd12 i).2 hi, rfl⟩⟩
          · rw [out2 j λ i c hi _ => hn i c hi] at hj
            exact ⟨o, by rw [out1 j hn]; exact hj, λ x hx => hx.mono (λ _ _ h => h) λ i hi => ⟨(hd12 i).2 hi, rfl⟩⟩
        exact ⟨v, rfl, B2, ι2, hk.trans h3', h4.mono (λ _ _ h => h) λ i hi => ⟨(hd12 i).2 hi, rfl⟩⟩
      · cases hx
    · cases hx
def look : List (FuncId × Spec) -> FuncId -> Option Spec
  | [], _ => none
  | (g, s) :: r, f => if Nat.beq g f then some s else look r f
theorem AD : GOk P (look []) := λ _ _ h => by cases h
theorem AB {f : FuncId} {t : Spec} {r : List (FuncId × Spec)} (h : AG P f t) (hr : GOk P (look r)) : GOk P (look ((f, t) :: r)) := λ g s hs => by
  simp only [look] at hs
  split at hs
  · rename_i he
    cases hs
    have := Nat.eq_of_beq_eq_true he
    subst this
    exact h
  · exact hr g s hs
end Go.Sym
