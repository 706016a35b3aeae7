/- A range over a function: the iterator's text reckoned, with the loop's body in place of yield. -/
import Derived.Test.YtgjkmndbkidgjaaGreatSym10
import Derived.Maps.RangeRun
set_option linter.unusedVariables false
set_option linter.unusedSimpArgs false
namespace Go.Sym
variable {P : Program} {B B' : HN} {ι ι' : Nat -> Pl} {H H' : Heap} {D D' : Nat -> Prop} {w w' : World} {c : Ctx} {σ σ' : AState}
structure AnnI where
  base : Nat -> Nat
  mt : Nat -> Bool := λ _ => false
  Γ : FuncId -> Option Spec
  loops : Nat -> Option Ed := λ _ => none
  /-- the same, by the measures of the loops around, from the inmost one -/
  inner : List Nat -> Nat -> Option Ed := λ _ _ => none
  pack : Nat -> Option Pack := λ _ => none
  /-- loops that are unrolled: how often at most -/
  unr : Nat -> Nat := λ _ => 0
  /-- how far names are shifted, by the rounds of unrolled loops around -/
  off : List Nat -> Nat := λ _ => 0
  E : List Nat
  n : Nat
def AnnI.loopAt (A : AnnI) (gs : List Nat) (k : Nat) : Option Ed := match A.inner gs k with
  | some L => some L
  | none => A.loops k
structure Susp where
  c : Ctx
  sl1 : Nat -> AVal
  tmps : Array Value
  Ds : List Nat
  l : Nat
  lp : LoopState -> Option Code -> Loop
def MX : Exit -> Code
  | .exit id => .exit id
  | _ => .ret
def wU : Option Exit -> LoopState
  | none => .ready
  | some _ => .done
structure BaseI (S : Susp) (m : Option Exit) (B : HN) (ι : Nat -> Pl) (H : Heap) (w : World) : Prop where
  mv : Moved S.c.B0 S.c.ι0 S.c.H0 S.c.w0 B ι H w
  susp : ∀ t, VRel B ι H.dom (S.sl1 t) (S.tmps.getD t undef)
  marks : ∀ D ∈ S.Ds, S.c.w0.heap.size <= D /\ Quiet D (.deferred (some [])) ι H w
  lge : S.c.w0.heap.size <= S.l
  lp : Quiet S.l (.loop (S.lp (wU m) (m.map MX))) ι H w
theorem BaseI.moved {S : Susp} {m : Option Exit} (h : BaseI S m B ι H w) (hm : Moved B ι H w B' ι' H' w') : BaseI S m B' ι' H' w' :=
  ⟨h.mv.trans hm, λ t => hm.vrel (h.susp t), λ D hD => ⟨(h.marks D hD).1, (h.marks D hD).2.moved hm⟩, h.lge, h.lp.moved hm⟩
theorem BaseI.put {S : Susp} {m m' : Option Exit} (h : BaseI S m B ι H w) (h' : w' = w.putObj S.l (.loop (S.lp (wU m') (m'.map MX)))) : BaseI S m' B ι H w' := by
  subst h'
  refine ⟨h.mv.put h.lp (λ _ _ _ h => by cases h) h.lge _, h.susp, λ D hD => ⟨(h.marks D hD).1, (h.marks D hD).2.put_other λ he => ?_⟩, h.lge, h.lp.put_same _⟩
  have h1 := (h.marks D hD).2.here
  rw [<- he, h.lp.here] at h1
  cases h1
structure RelI (S : Susp) (n : Nat) (m : Option Exit) (B : HN) (ι : Nat -> Pl) (σ : AState) (a : Act) (w : World) : Prop where
  slots : ∀ t, VRel B ι σ.H.dom (σ.sl t) (a.tmps.getD t undef)
  size : a.tmps.size = n
  nodef : a.defers = []
  base : BaseI S m B ι σ.H w
theorem RelI.tmp {S : Susp} {n : Nat} {m : Option Exit} {a : Act} (h : RelI S n m B ι σ a w) : Rel ⟨B, ι, σ.H, w, n, none, false⟩ B ι σ a w :=
  ⟨h.slots, h.size, ⟨[], h.nodef, λ _ => rfl, List.nodup_nil, λ D hD => by cases hD⟩, Moved.refl h.base.mv.heap⟩
theorem RelI.of {S : Susp} {n : Nat} {m : Option Exit} {a a' : Act} (h : RelI S n m B ι σ a w) (h' : Rel ⟨B, ι, σ.H, w, n, none, false⟩ B' ι' σ' a' w') : RelI S n m B' ι' σ' a' w' := by
  obtain ⟨Ds, h1, h2, _⟩ := h'.defers
  rw [h2 rfl] at h1
  exact ⟨h'.slots, h'.size, h1, h.base.moved h'.mv⟩
def CodeI (P : Program) (S : Susp) (n : Nat) (code : Code) (Q : Exit -> Option Exit -> AState -> Prop) (m : Option Exit) (σ : AState) : Prop :=
  ∀ B ι a w, RelI S n m B ι σ a w -> code.wpIn (Ev none) 0 P (λ e a' w' => ∃ B' ι' m' σ', Q e m' σ' /\ RelI S n m' B' ι' σ' a' w') a w
section
variable {S : Susp} {n : Nat} {m : Option Exit} {Q Q' : Exit -> Option Exit -> AState -> Prop}
theorem CodeI.mono {code : Code} (h : CodeI P S n code Q m σ) (hq : ∀ e m σ, Q e m σ -> Q' e m σ) : CodeI P S n code Q' m σ :=
  λ B ι a w hR => wpIn_mono (h B ι a w hR) λ _ _ _ ⟨B', ι', m', σ', hQ, hR'⟩ => ⟨B', ι', m', σ', hq _ _ _ hQ, hR'⟩
theorem CodeI.of {code : Code} {Q1 : Exit -> AState -> Prop} (h : ∀ c : Ctx, c.n = n -> c.rd = none -> c.H0 = σ.H -> CodeE P c code Q1 σ) (hq : ∀ e σ', Q1 e σ' -> Q e m σ') : CodeI P S n code Q m σ :=
  λ B ι a w hR => wpIn_mono (h ⟨B, ι, σ.H, w, n, none, false⟩ rfl rfl rfl B ι a w hR.tmp) λ _ _ _ ⟨B', ι', σ', hQ, hR'⟩ => ⟨B', ι', m, σ', hq _ _ hQ, hR.of hR'⟩
def fN (K : Option Exit -> AState -> Prop) (Q : Exit -> Option Exit -> AState -> Prop) : Exit -> Option Exit -> AState -> Prop
  | .normal, m, σ => K m σ
  | e, m, σ => Q e m σ
def AGA (id : Nat) (Q : Exit -> Option Exit -> AState -> Prop) : Exit -> Option Exit -> AState -> Prop
  | .exit id', m, σ => if id' = id then Q .normal m σ else Q (.exit id') m σ
  | e, m, σ => Q e m σ
theorem CodeI.seq {x y : Code} (h : CodeI P S n x (fN (CodeI P S n y Q) Q) m σ) : CodeI P S n (.seq x y) Q m σ := by
  intro B ι a w hR
  refine wpIn_seq (wpIn_mono (h B ι a w hR) λ e a w hq => ?_)
  obtain ⟨B', ι', m', σ', hq, hR'⟩ := hq
  cases e with
  | normal => exact hq B' ι' a w hR'
  | _ => exact ⟨B', ι', m', σ', hq, hR'⟩
theorem CodeI.cond {x : Operand} {t e : Code} {b : Bool} (hx : BA σ.sl x = .bool b) (ht : b = true -> CodeI P S n t Q m σ) (he : b = false -> CodeI P S n e Q m σ) : CodeI P S n (.cond x t e) Q m σ := by
  intro B ι a w hR
  have hv := CS hR.slots x
  rw [hx] at hv
  exact wpIn_cond_split hv.d_inv.v_inv (λ h => ht h B ι a w hR) (λ h => he h B ι a w hR)
theorem CodeI.block {id : Nat} {x : Code} (h : CodeI P S n x (AGA id Q) m σ) : CodeI P S n (.block id x) Q m σ := by
  intro B ι a w hR
  refine wpIn_block (wpIn_mono (h B ι a w hR) λ e a w hq => ?_)
  obtain ⟨B', ι', m', σ', hq, hR'⟩ := hq
  cases e with
  | exit id' =>
    simp only [AGA] at hq
    simp only [Exit.inBlock]
    split
    · rename_i he; rw [if_pos he] at hq; exact ⟨B', ι', m', σ', hq, hR'⟩
    · rename_i he; rw [if_neg he] at hq; exact ⟨B', ι', m', σ', hq, hR'⟩
  | _ => exact ⟨B', ι', m', σ', hq, hR'⟩
theorem CodeI.loop {x : Code} (I : Nat -> AState -> Prop) (k : Nat) (h0 : I k σ) (round : ∀ k σ, I k σ -> CodeI P S n x (fN (λ m' σ' => m' = none /\ ∃ j, j < k /\ I j σ') Q) none σ) : CodeI P S n (.loop x) Q none σ := by
  intro B ι a w hR
  refine wpIn_loop_ghost (λ k a w => ∃ B ι σ, I k σ /\ RelI S n none B ι σ a w) k ⟨B, ι, σ, h0, hR⟩ ?_
  rintro k a w ⟨B, ι, σ, hI, hR⟩
  refine wpIn_mono (round k σ hI B ι a w hR) λ e a w hq => ?_
  obtain ⟨B', ι', m', σ', hq, hR'⟩ := hq
  cases e with
  | normal => obtain ⟨rfl, j, hj, hI⟩ := hq; exact ⟨j, hj, B', ι', σ', hI, hR'⟩
  | _ => exact ⟨B', ι', m', σ', hq, hR'⟩
variable {E : List Nat}
theorem BaseI.keep {p : Nat -> Bool} (hS : ∀ t, LP p (S.sl1 t) = true) (h : BaseI S m B ι H w) (hB : ∀ b c, B b = some c -> B' b = some c) (hm : Moved S.c.B0 S.c.ι0 S.c.H0 S.c.w0 B' ι' H' w) (hp : ∀ i, p i = true -> H'.dom i /\ ι' i = ι i)
    (hl : ∀ i o, H' i = .live o -> ∃ j o', (ι' i).b = (ι j).b /\ H j = .live o') : BaseI S m B' ι' H' w := by
  have q : ∀ {b x}, Quiet b x ι H w -> Quiet b x ι' H' w := λ hq => ⟨hq.here, λ i o hi => by obtain ⟨j, o', h1, h2⟩ := hl i o hi; rw [h1]; exact hq.sep _ _ h2⟩
  exact ⟨hm, λ t => VRel.keep (ι := ι) (D := H.dom) hp _ _ (hS t) ((h.susp t).mono hB λ i hi => ⟨hi, rfl⟩), λ D hD => ⟨(h.marks D hD).1, q (h.marks D hD).2⟩, h.lge, q h.lp⟩
theorem RelI.subF {fz : List Nat} {l : List (Nat × Nat)} {s : ST} {a : Act} (hE : ∀ i, S.c.H0.dom i -> i ∈ E) (hS : ∀ t, LP (λ i => E.contains i) (S.sl1 t) = true) (h : CJ (IX E fz l s σ)) (hR : RelI S n m B ι σ a w) :
    ∃ B', RelI S n m B' (λ i => ι (EA l i)) s.st a w := by
  obtain ⟨B', h1, h2, h3, h4, h5⟩ := Moved.subF hE h hR.base.mv
  exact ⟨B', λ t => h2 t _ (hR.slots t), hR.size, hR.nodef, hR.base.keep hS h4 h1 (λ i hi => by
    obtain ⟨h6, h7⟩ := h5 i (by simpa using hi)
    exact ⟨h6, by show ι (EA l i) = ι i; rw [h7]⟩) λ i o hi => by obtain ⟨o', ho⟩ := h3 i o hi; exact ⟨_, o', rfl, ho⟩⟩
theorem RelI.pack {p : Pack} {a : Act} (hE : ∀ i, S.c.H0.dom i -> i ∈ E) (hS : ∀ t, LP (λ i => E.contains i) (S.sl1 t) = true) (hok : nD p E (GK p σ) = true) (hc : BG (AGY p σ)) (hR : RelI S n m B ι σ a w) :
    ∃ B', RelI S n m B' ι (GK p σ).st a w := by
  obtain ⟨B', h1, h2, h3, h4, h5⟩ := Moved.pack hE hok hc hR.base.mv
  exact ⟨B', λ t => h2 t _ (hR.slots t), hR.size, hR.nodef, hR.base.keep hS h4 h1 (λ i hi => ⟨h5 i (by simpa using hi), rfl⟩) λ i o hi => by obtain ⟨o', ho⟩ := h3 i o hi; exact ⟨i, o', rfl, ho⟩⟩
abbrev YK := List AVal -> Heap -> (Heap -> Prop) -> (Exit -> Heap -> Prop) -> Prop
def Cw (P : Program) (S : Susp) (yk : YK) : Prop := ∀ (as : List AVal) (H : Heap) (kn : Heap -> Prop) (ks : Exit -> Heap -> Prop), yk as H kn ks -> ∀ (B : HN) (ι : Nat -> Pl) (w : World) (vs : Array Value), LB B ι H.dom as vs -> BaseI S none B ι H w ->
  ∃ f tmps assign body, (Instr.yield S.l vs).run P w = .ok (.round S.l f tmps assign body) w /\ RoundIn (Ev none) 0 P S.l f tmps assign body w λ e w' =>
    ∃ B' ι' H', (∀ a y, VRel B ι H.dom a y -> VRel B' ι' H'.dom a y) /\ ((e = .returned (.bool true) /\ kn H' /\ BaseI S none B' ι' H' w') ∨ ∃ x, e = .returned (.bool false) /\ ks x H' /\ BaseI S (some x) B' ι' H' w')
def oK (ops : Array Oper) (sl : Nat -> AVal) (j : Nat) (want : Bool) : Option Bool := match (ops[j]?).bind (·.dst) with
  | some t => match sl t with
    | .d (.v (.bool b)) => some (if want then b else !b)
    | .d (.v (.tuple _)) => some false
    | _ => none
  | none => none
theorem C4 {ops : Array Oper} {sl : Nat -> AVal} {o : Oper} {j : Nat} {want g : Bool} {a : Act} (hg : o.guard = some (j, want)) (h : oK ops sl j want = some g) (hs : ∀ t, VRel B ι D (sl t) (a.tmps.getD t undef)) :
    Region.wanted o (yielded ops a.tmps) = g := by
  unfold oK at h
  simp only [Region.wanted, hg]
  split at h
  · rename_i t ht
    have hv := hs t
    have hget : a.tmps.getD t undef = (a.tmps[t]?).getD undef := by simp
    split at h
    · rename_i b hb
      cases h
      rw [hb] at hv
      rw [(mV (a := a) ht).1 _ hv.d_inv.v_inv]
      cases want <;> cases b <;> rfl
    · rename_i x hb
      cases h
      rw [hb] at hv
      have h1 := hv.d_inv.v_inv
      have : yielded ops a.tmps j = none := by
        simp only [yielded, ht, Option.bind_some]
        rw [hget] at h1
        cases hq : a.tmps[t]? with
        | none => rfl
        | some y => rw [hq] at h1; simp at h1; subst h1; rfl
      rw [this]; rfl
    · cases h
  · cases h
def ABU (P : Program) (A : AnnI) (l : Nat) (yk : YK) (mt : Bool) (r : Nat) (o : Oper) (K : Option Exit -> AState -> Prop) (m : Option Exit) (σ : AState) : Prop := match o.op with
  | .call ⟨.value f, args, _⟩ => match BA σ.sl f with
    | .fn (.yield l') [] [] => match m with
      | none => RR [l' = l] (yk (args.toList.map (BA σ.sl)) σ.H (λ H' => K none ⟨LL σ.sl o.dst (.bool true), H'⟩) (λ e H' => K (some e) ⟨LL σ.sl o.dst (.bool false), H'⟩))
      | some _ => False
    | fv => match wC A.Γ r fv (args.toList.map (BA σ.sl)) σ.H with
      | some x => if LY σ.H r then RR x.pre (K m (σ.app o.dst x.val x.upd)) else False
      | none => False
  | op => match opA P mt r (BA σ.sl) σ.H op with
    | some e => if isNone (σ.H r) then RR e.pre (K m (σ.app o.dst e.val e.upd)) else False
    | none => False
def refG (ops : Array Oper) (sl : Nat -> AVal) (j : Nat) (b : Bool) : Nat -> AVal := match (ops[j]?).bind (·.dst) with
  | some t => match sl t with
    | .d (.v (.bool _)) => LL sl (some t) (.bool b)
    | _ => sl
  | none => sl
theorem ALA {ops : Array Oper} {sl : Nat -> AVal} {j : Nat} {want g : Bool} (h : oK ops sl j want = some g) (t' : Nat) {v : Value} (hv : VRel B ι D (sl t') v) : VRel B ι D (refG ops sl j (if g then want else !want) t') v := by
  unfold oK at h
  unfold refG
  split at h
  · rename_i t ht
    simp only [ht]
    split at h
    · rename_i b hb
      cases h
      simp only [hb]
      have e : (if (if want = true then b else !b) = true then want else !want) = b := by cases want <;> cases b <;> rfl
      rw [e]
      by_cases he : t' = t
      · subst he
        rw [hb] at hv
        simpa [LL] using hv
      · simpa [LL, he] using hv
    · rename_i x hb
      simp only [hb]; exact hv
    · cases h
  · cases h
theorem BF {b : Bool} {p q : Prop} : (bif b then p else q) = ((b = true -> p) /\ (b = false -> q)) := by cases b <;> simp
def runK (P : Program) (A : AnnI) (l : Nat) (yk : YK) (mt : Bool) (base : Nat) (ops : Array Oper) (K : Option Exit -> AState -> Prop) : List Oper -> Nat -> Option Exit -> AState -> Prop
  | [], _, m, σ => K m σ
  | o :: rest, k, m, σ => if xH A.n o then match o.guard with
      | none => ABU P A l yk mt (base + 16 * k) o (runK P A l yk mt base ops K rest (k + 1)) m σ
      | some (j, want) => match oK ops σ.sl j want with
        | some g => bif g then ABU P A l yk mt (base + 16 * k) o (runK P A l yk mt base ops K rest (k + 1)) m ⟨refG ops σ.sl j want, σ.H⟩ else runK P A l yk mt base ops K rest (k + 1) m (AState.app ⟨refG ops σ.sl j (!want), σ.H⟩ o.dst (.d (.v undef)) [])
        | none => False
    else False
theorem StepO.bare {ops : Array Oper} {mt : Bool} {r : Nat} {o : Oper} {val : AVal} {upd : List (Nat × HCell)} {touch : List Nat} (h : StepO P mt ops r σ { o with guard := none } val upd touch) {a : Act} (hR : RelI S n m B ι σ a w)
    (hdst : ∀ d, o.dst = some d -> d < n) {K : Act -> World -> Prop} {Q : Exit -> Act -> World -> Prop} (hK : ∀ B' ι' a' w', RelI S n m B' ι' (σ.app o.dst val upd) a' w' -> K a' w') : o.wpIn (Ev none) 0 P a w K Q := by
  have := h.sound (Q := Q) hR.tmp hdst (K := K) λ B' ι' a' w' hR' => hK B' ι' a' w' (hR.of hR')
  simp only [Region.wanted, if_true] at this
  exact this
theorem AAP {A : AnnI} (hΓ : wE P A.Γ) {yk : YK} (hy : Cw P S yk) {mt : Bool} {r : Nat} {o : Oper} {K : Option Exit -> AState -> Prop} (h : ABU P A S.l yk mt r o K m σ) (hdst : ∀ d, o.dst = some d -> d < n)
    {a : Act} (hR : RelI S n m B ι σ a w) {KW : Act -> World -> Prop} {Q : Exit -> Act -> World -> Prop} (hK : ∀ B' ι' m' σ' a' w', K m' σ' -> RelI S n m' B' ι' σ' a' w' -> KW a' w') : o.wpIn (Ev none) 0 P a w KW Q := by
  unfold ABU at h
  split at h
  · rename_i f args ats ho
    split at h
    · rename_i l' hf
      split at h
      · obtain ⟨h1, h2⟩ := DU h
        have h1 : l' = S.l := h1
        subst h1
        have hfv := CS hR.slots f
        rw [hf] at hfv
        have hfe : a.eval f = .func (.yield S.l) #[] #[] := by
          generalize a.eval f = v at hfv
          cases hfv with
          | fn hx hy h1 h2 =>
            rename_i xs ys
            have e1 : xs = #[] := by simpa using hx
            have e2 : ys = #[] := by simpa using hy
            subst e1; subst e2; rfl
        have hA : LB B ι σ.H.dom (args.toList.map (BA σ.sl)) (args.map a.eval) := ⟨by simp, λ j x y hx hy => by
          obtain ⟨z, hz, rfl⟩ := XS hx
          rw [Array.getElem?_toList] at hz
          simp [hz] at hy
          subst hy; exact CS hR.slots z⟩
        obtain ⟨fn, tmps, assign, body, hyr, hround⟩ := hy _ _ _ _ h2 B ι w _ hA hR.base
        refine ⟨FS o a _, ?_⟩
        rw [Oper.semAt_eq _ _ _ (by rw [ho]; exact λ _ h => by cases h)]
        have hrun : (execOp a.eval o).run P w = .ok (.round S.l fn tmps assign body) w := by
          simp only [execOp, ho, resolve, hfe, Deferred.ofValue, invoke, Sem.run_bind, Sem.run_pure, Result.andThen_ok]
          simpa using hyr
        rw [hrun, Oper.uponIn_round]
        refine ⟨(λ h => by cases h), RoundIn.mono hround λ e w' hh => ?_⟩
        obtain ⟨B', ι', H', ht, hh⟩ := hh
        have put : ∀ b m', BaseI S m' B' ι' H' w' -> RelI S n m' B' ι' ⟨LL σ.sl o.dst (.bool b), H'⟩ (a.put o.dst (.bool b)) w' := λ b m' hb =>
          ⟨λ t => Eg (λ t => ht _ _ (hR.slots t)) (λ d hd => by rw [hR.size]; exact hdst d hd) (.d (.v _)) t, by cases o.dst <;> simp [Act.put, hR.size], by cases o.dst <;> simp [Act.put, hR.nodef], hb⟩
        rcases hh with ⟨rfl, h3, h4⟩ | ⟨x, rfl, h3, h4⟩
        · exact hK _ _ _ _ _ _ h3 (put true _ h4)
        · exact hK _ _ _ _ _ _ h3 (put false _ h4)
      · exact h.elim
    · split at h
      · rename_i x hx
        split at h
        · rename_i hfr
          obtain ⟨h1, h2⟩ := DU h
          obtain ⟨g, first, caps, he, hc⟩ := NI hΓ hx
          have mp : ∀ (l : List Nat), (l.map λ i => (i, σ.H i)).map (·.1) = l := λ l => by
            induction l with
            | nil => rfl
            | cons a l ih => simp only [List.map_cons, ih]
          exact StepO.bare (ops := #[]) (mt := mt) (.call (f := f) (args := args) (ats := ats) rfl ho he (hc h1) (OD _ _) (JE hfr)) hR hdst λ B' ι' a' w' hR' => hK _ _ _ _ _ _ h2 hR'
        · exact h.elim
      · exact h.elim
  · split at h
    · rename_i e he
      split at h
      · rename_i hfr
        obtain ⟨h1, h2⟩ := DU h
        exact StepO.bare (ops := #[]) (mt := mt) (.op rfl he h1 (MK hfr)) hR hdst λ B' ι' a' w' hR' => hK _ _ _ _ _ _ h2 hR'
      · exact h.elim
    · exact h.elim
theorem Kr {A : AnnI} (hΓ : wE P A.Γ) {yk : YK} (hy : Cw P S yk) (hn : A.n = n) {mt : Bool} {base : Nat} {ops : Array Oper} {K : Option Exit -> AState -> Prop} (hK : ∀ m σ, K m σ -> Q .normal m σ) : ∀ (l : List Oper) (k : Nat) (m : Option Exit) (σ : AState), runK P A S.l yk mt base ops K l k m σ ->
    ∀ B ι a w, RelI S n m B ι σ a w -> wpListIn (Ev none) 0 P ops (λ e a' w' => ∃ B' ι' m' σ', Q e m' σ' /\ RelI S n m' B' ι' σ' a' w') l a w
  | [], _, m, σ, h, B, ι, a, w, hR => ⟨B, ι, m, σ, hK _ _ h, hR⟩
  | o :: l, k, m, σ, h, B, ι, a, w, hR => by
    simp only [runK] at h
    split at h
    · rename_i hd
      have hdst : ∀ d, o.dst = some d -> d < n := λ d h => hn ▸ OA hd d h
      have go : ∀ σ, RelI S n m B ι σ a w -> ABU P A S.l yk mt (base + 16 * k) o (runK P A S.l yk mt base ops K l (k + 1)) m σ -> o.wpIn (Ev none) 0 P a w (wpListIn (Ev none) 0 P ops (λ e a' w' => ∃ B' ι' m' σ', Q e m' σ' /\ RelI S n m' B' ι' σ' a' w') l) (λ e a' w' => ∃ B' ι' m' σ', Q e m' σ' /\ RelI S n m' B' ι' σ' a' w') :=
        λ σ hR h => AAP hΓ hy h hdst hR λ B' ι' m' σ' a' w' h1 h2 => Kr hΓ hy hn hK l (k + 1) m' σ' h1 B' ι' a' w' h2
      unfold wpListIn
      split at h
      · rename_i hg
        simp only [Region.wanted, hg, if_true]
        exact go σ hR h
      · rename_i j want hg
        split at h
        · rename_i g hgd
          rw [C4 hg hgd hR.slots]
          have hR2 : RelI S n m B ι ⟨refG ops σ.sl j (if g then want else !want), σ.H⟩ a w := ⟨λ t => ALA hgd t (hR.slots t), hR.size, hR.nodef, hR.base⟩
          cases g with
          | true => simp only [if_true]; exact go _ hR2 h
          | false =>
            simp only [Bool.false_eq_true, if_false]
            refine ⟨FS o a _, Kr hΓ hy hn hK l (k + 1) m _ h B ι _ w ?_⟩
            exact ⟨λ t => Eg hR2.slots (λ d hd => by rw [hR.size]; exact hdst d hd) (.d (.v _)) t, by cases o.dst <;> simp [Act.put, hR.size], by cases o.dst <;> simp [Act.put, hR.nodef], hR.base⟩
        · exact h.elim
    · exact h.elim
def utag (j : Nat) : Nat := 2000000 * (j + 1)
def unrI (V : Nat -> (Option Exit -> AState -> Prop) -> AState -> Prop) : Nat -> Option Exit -> AState -> Prop
  | 0, _, _ => False
  | n + 1, none, σ => V (utag n) (unrI V n) σ
  | _ + 1, some _, _ => False
def vcI (P : Program) (A : AnnI) (l : Nat) (yk : YK) : Code -> List Nat -> (Exit -> Option Exit -> AState -> Prop) -> Option Exit -> AState -> Prop
  | .skip, _, Q, m, σ => Q .normal m σ
  | .label _, _, Q, m, σ => Q .normal m σ
  | .exit id, _, Q, m, σ => Q (.exit id) m σ
  | .ret, _, Q, m, σ => Q .ret m σ
  | .seq a b, gs, Q, m, σ => vcI P A l yk a gs (fN (vcI P A l yk b gs Q) Q) m σ
  | .cond x t e, gs, Q, m, σ => match BA σ.sl x with
    | .d (.v (.bool b)) => bif b then vcI P A l yk t gs Q m σ else vcI P A l yk e gs Q m σ
    | _ => False
  | .block id b, gs, Q, m, σ => vcI P A l yk b gs (AGA id Q) m σ
  | .loop b, gs, Q, m, σ => match A.unr (YJ b) with
    | k + 1 => unrI (λ t K σ' => vcI P A l yk b (t :: gs) (fN K Q) none σ') (k + 1) m σ
    | 0 => match m, A.loopAt gs (YJ b) with
    | none, some L => ZC A.E (·.at1) σ (λ s a => s.inv a) L /\
        allS (λ s => ∀ a, s.inv a -> vcI P A l yk b (s.meas a :: gs) (fN (λ m' σ' => match m' with
          | none => ZC A.E (·.at2) σ' (λ s' a' => s'.inv a' /\ s'.meas a' < s.meas a) L
          | some _ => False) Q) none (s.T a).st) L
    | _, _ => False
  | .region id ops draw, gs, Q, m, σ => match draw with
    | true => VU P A.Γ (A.mt id) (A.base id + A.off gs) A.n ops true σ λ σ' => Ew (A.pack id) A.E σ' (Q .normal m)
    | false => runK P A l yk (A.mt id) (A.base id + A.off gs) ops (λ m' σ' => Ew (A.pack id) A.E σ' (Q .normal m')) ops.toList 0 m σ
  | _, _, _, _, _ => False
theorem AJR {A : AnnI} (hΓ : wE P A.Γ) (hm : P.follows .mixedOrders = true) {yk : YK} (hy : Cw P S yk) (hn : A.n = n) (hE : ∀ i, S.c.H0.dom i -> i ∈ A.E) (hS : ∀ t, LP (λ i => A.E.contains i) (S.sl1 t) = true) :
    ∀ (code : Code) (gs : List Nat) (Q : Exit -> Option Exit -> AState -> Prop) (m : Option Exit) (σ : AState), vcI P A S.l yk code gs Q m σ -> CodeI P S n code Q m σ := by
  have pk : ∀ {id : Nat} {Q : Exit -> Option Exit -> AState -> Prop} {m : Option Exit} {σ : AState} {B : HN} {ι : Nat -> Pl} {a : Act} {w : World}, Ew (A.pack id) A.E σ (Q .normal m) -> RelI S n m B ι σ a w -> ∃ B' ι' m' σ', Q .normal m' σ' /\ RelI S n m' B' ι' σ' a w := λ {id Q m σ B ι a w} h hR => by
    unfold Ew at h
    split at h
    · exact ⟨B, ι, m, σ, h, hR⟩
    · split at h
      · rename_i p hp hok
        obtain ⟨h1, h2⟩ := DU h
        obtain ⟨B', hR'⟩ := hR.pack hE hS hok h1
        exact ⟨B', ι, m, _, h2, hR'⟩
      · exact h.elim
  intro code
  induction code with
  | skip => intro gs Q m σ h B ι a w hR; exact wpIn_skip ⟨B, ι, m, σ, h, hR⟩
  | label l => intro gs Q m σ h B ι a w hR; exact wpIn_label ⟨B, ι, m, σ, h, hR⟩
  | exit id => intro gs Q m σ h B ι a w hR; exact wpIn_exit ⟨B, ι, m, σ, h, hR⟩
  | ret => intro gs Q m σ h B ι a w hR; exact wpIn_ret ⟨B, ι, m, σ, h, hR⟩
  | seq a b iha ihb =>
    intro gs Q m σ h
    refine .seq (CodeI.mono (iha gs _ m σ h) λ e m σ' hq => ?_)
    cases e with
    | normal => exact ihb gs Q m σ' hq
    | _ => exact hq
  | cond x t e iht ihe =>
    intro gs Q m σ h
    simp only [vcI] at h
    split at h
    · rename_i b hb
      rw [BF] at h; exact .cond hb (λ hb => iht gs Q m σ (h.1 hb)) λ hb => ihe gs Q m σ (h.2 hb)
    · exact h.elim
  | block id b ih => intro gs Q m σ h; exact .block (ih gs _ m σ h)
  | loop b ih =>
    intro gs Q m σ h
    simp only [vcI] at h
    split at h
    · rename_i k hk
      cases m with
      | some x => exact h.elim
      | none =>
      refine .loop (λ k σ => unrI (λ t K σ' => vcI P A S.l yk b (t :: gs) (fN K Q) none σ') k none σ) (k + 1) h ?_
      intro k σ' h'
      cases k with
      | zero => exact h'.elim
      | succ k =>
        refine CodeI.mono (ih _ _ _ _ h') λ e m' σ'' hq => ?_
        cases e with
        | normal =>
          simp only [fN] at hq
          cases m' with
          | none => exact ⟨rfl, k, Nat.lt_succ_self k, hq⟩
          | some x => cases k <;> exact hq.elim
        | _ => exact hq
    split at h
    · rename_i L hL
      obtain ⟨h0, h3⟩ := h
      obtain ⟨s, hs, a, h1, h2⟩ := IH h0
      refine .loop (λ k σ => ∃ l fz s a, s ∈ L /\ CJ (IX A.E fz l (s.T a) σ) /\ s.inv a /\ s.meas a = k) (s.meas a) ⟨_, _, s, a, hs, h1, h2, rfl⟩ ?_
      rintro k σ' ⟨l, fz, s, a, hs, h4, h5, rfl⟩ B ι act w hR
      obtain ⟨B', hR'⟩ := hR.subF hE hS h4
      refine wpIn_mono (ih _ _ _ _ (Dd h3 s hs a h5) B' _ act w hR') λ e a' w' hq => ?_
      obtain ⟨B2, ι2, m2, σ2, hq, hR2⟩ := hq
      refine ⟨B2, ι2, m2, σ2, ?_, hR2⟩
      cases e with
      | normal =>
        simp only [fN] at hq
        cases m2 with
        | none => obtain ⟨s', q0, a', q1, q2, q3⟩ := IH hq; exact ⟨rfl, s'.meas a', q3, _, _, s', a', q0, q1, q2, rfl⟩
        | some x => exact hq.elim
      | _ => exact hq
    · exact h.elim
  | scope b ih => intro gs Q m σ h; exact h.elim
  | region id ops draw =>
    intro gs Q m σ h
    cases draw with
    | true =>
      simp only [vcI] at h
      intro B ι a w hR
      have h1 : CodeI P S n (.region id ops true) (λ e m' σ' => e = .normal /\ Ew (A.pack id) A.E σ' (Q .normal m')) m σ :=
        CodeI.of (Q1 := λ e σ' => e = .normal /\ Ew (A.pack id) A.E σ' (Q .normal m)) (λ c h1 h2 h3 => Fa (id := id) hΓ hm (by rw [h1, <- hn]; exact Ye (λ σ' hk => ⟨rfl, hk⟩) h)) λ e σ' h => h
      refine wpIn_mono (h1 B ι a w hR) λ e a' w' hq => ?_
      obtain ⟨B', ι', m', σ', ⟨rfl, hp⟩, hR'⟩ := hq
      exact pk hp hR'
    | false =>
      simp only [vcI] at h
      intro B ι a w hR
      have := wpIn_region_list (id := id) (Kr (Q := λ e m' σ' => e = .normal /\ Ew (A.pack id) A.E σ' (Q .normal m')) hΓ hy hn (λ m σ h => ⟨rfl, h⟩) _ _ _ _ h B ι a w hR)
      refine wpIn_mono this λ e a' w' hq => ?_
      obtain ⟨B', ι', m', σ', ⟨rfl, hp⟩, hR'⟩ := hq
      exact pk hp hR'
  | rangeFunc => intro gs Q m σ h; exact h.elim
  | goto => intro gs Q m σ h; exact h.elim
  | refuse => intro gs Q m σ h; exact h.elim
end
end Go.Sym

namespace Go.Sym
variable {P : Program} {B B' : HN} {ι ι' : Nat -> Pl} {H H' : Heap} {D : Nat -> Prop} {w w' : World} {c : Ctx} {σ : AState} {Q : Exit -> AState -> Prop}
theorem Rel.frz {a : Act} {id kk n n2 : Nat} {get : Nat -> DVal} {dst : Option Tmp} (h : Rel c B ι σ a w) (hid : σ.H id = .live (.row kk n2 get)) (hv : ∀ d, dst = some d -> σ.sl d = .own id kk 0 n) (hn : n = n2) :
    ∃ B', Rel c B' ι ⟨LL σ.sl dst (.d (.list kk n get false)), CH σ.H id .dead⟩ a w := by
  obtain ⟨B', hm, hF⟩ := FU [id] h.mv.heap
  have hk : CF σ.H [id] = CH σ.H id .dead := by simp only [CF, hid]
  rw [hk] at hm
  have hf : EM σ.H [id] id = some (kk, n2, get) := by simp [EM, hid]
  refine ⟨B', ⟨λ t => ?_, h.size, ?_, h.mv.trans hm⟩⟩
  · simp only [Er]
    split
    · rename_i hd
      have := h.slots t
      rw [hv t hd] at this
      exact .d (vL hF hf rfl (by omega) (λ j _ => by rw [Nat.zero_add]; exact KE _) this)
    · exact hm.vrel (h.slots t)
  · obtain ⟨Ds, h1, h0, h2, h3⟩ := h.defers
    exact ⟨Ds, h1, h0, h2, λ D hD => ⟨(h3 D hD).1, (h3 D hD).2.moved hm⟩⟩
def Wh (P : Program) (Γ : FuncId -> Option Spec) (mt : Bool) (ops : Array Oper) (r : Nat) (o : Oper) (σ : AState) (K : AState -> Prop) : Prop := match gB P Γ mt ops r σ o with
  | some s => RR (RP σ.sl o ++ s.pre) (K (σ.app o.dst s.val s.upd))
  | none => False
def AXO (P : Program) (Γ : FuncId -> Option Spec) (ops : Array Oper) (r : Nat) (o : Oper) (σ : AState) (K : AState -> Prop) : Prop := match gB P Γ true ops r σ o with
  | some s => match o.dst, s.val with
    | some d, .own id kk 0 n => match BW σ.H s.upd id with
      | .live (.row k2 n2 get) => if Nat.beq kk k2 then RR (RP σ.sl o ++ (s.pre ++ [n = n2])) (K ⟨LL σ.sl (some d) (.d (.list kk n get false)), CH (BW σ.H s.upd) id .dead⟩) else False
      | _ => False
    | _, _ => False
  | none => False
def AWV (P : Program) (r : Nat) (o : Oper) (σ : AState) (K : AState -> Prop) : Prop := match o.op with
  | .lookup t m ix true => match APS P σ.H t (BA σ.sl m) (BA σ.sl ix) with
    | some (b, d, z, p) => RR p (bif b then K (σ.app o.dst (.d (.tup [d, .bool true])) []) else K (σ.app o.dst (.d (.tup [gF z, .bool false])) []))
    | none => False
  | _ => False
def AWY (P : Program) (r : Nat) (o : Oper) (σ : AState) (K : AState -> Prop) : Prop := match o.op with
  | .buildSlice t len ps => match FV P r t len (ps.toList.map λ p => (p.1, BA σ.sl p.2)) with
    | some ⟨_, [(_, .live (.row k n get))], _⟩ => K (σ.app o.dst (.d (.list k n get true)) [])
    | _ => False
  | _ => False
def AFE (P : Program) (r : Nat) (o : Oper) (σ : AState) (K : AState -> Prop) : Prop := match o.op with
  | .range t m => match YF P t, QB σ.H (BA σ.sl m), σ.H r with
    | some _, some (id, _, _, has, _, st, none), .none => K (σ.app o.dst (.bptr r 0) [(r, .live (.miter id has st (λ _ => false) none))])
    | _, _, _ => False
  | _ => False
def ARI (o : Oper) (σ : AState) (K : AState -> Prop) : Prop := match o.op with
  | .next it false => match BA σ.sl it with
    | .bptr id 0 => match σ.H id with
      | .live (.miter m hs st seen _) => match σ.H m with
        | .live (.imap (.int q) _ has get st' none) => (∀ n, hs n = has n) /\ (∀ n, st n = st' n) /\ ((∀ n, has n = true -> seen n = true) -> K (σ.app o.dst (.d (.tup [.v (.bool false)])) [])) /\
            ∀ k, has k = true -> seen k = false -> K (σ.app o.dst (.d (.tup [.v (.bool true), .v (.int q k), get k])) [(id, .live (.miter m hs st (λ j => decide (j = k) || seen j) (some k)))])
        | _ => False
      | _ => False
    | _ => False
  | _ => False
def AOU (o : Oper) (σ : AState) (K : AState -> Prop) : Prop := match o.op with
  | .entry it => match BA σ.sl it with
    | .bptr id 0 => match σ.H id with
      | .live (.miter m hs st _ (some k)) => match σ.H m with
        | .live (.imap (.int q) _ has get st' none) => (∀ n, hs n = has n) /\ (∀ n, st n = st' n) /\ K (σ.app o.dst (.d (.tup [.v (.int q k), get k])) [])
        | _ => False
      | _ => False
    | _ => False
  | _ => False
def N8 (ops : Array Oper) (sl : Nat -> AVal) (j : Nat) (b : Bool) : Nat -> AVal := match (ops[j]?).bind (·.dst) with
  | some t => match sl t with
    | .d (.v (.bool _)) => LL sl (some t) (.bool b)
    | _ => sl
  | none => sl
theorem sB (ops : Array Oper) (sl : Nat -> AVal) (j : Nat) (b : Bool) : N8 ops sl j b = sl ∨ ∃ t b1, (ops[j]?).bind (·.dst) = some t /\ sl t = .d (.v (.bool b1)) /\ N8 ops sl j b = LL sl (some t) (.bool b) := by
  unfold N8
  split
  · rename_i t ht
    split
    · rename_i b1 hb; exact .inr ⟨t, b1, ht, hb, rfl⟩
    · exact .inl rfl
  · exact .inl rfl
theorem X4 {ops : Array Oper} {sl : Nat -> AVal} {j : Nat} {want g : Bool} (h : BY ops sl j want = some g) (t' : Nat) {v : Value} (hv : VRel B ι D (sl t') v) : VRel B ι D (N8 ops sl j (if g then want else !want) t') v := by
  rcases sB ops sl j (if g then want else !want) with e | ⟨t, b1, ht, hb, e⟩
  · rw [e]; exact hv
  · rw [e]
    unfold BY at h
    rw [ht] at h
    simp only [hb] at h
    by_cases he : t' = t
    · subst he
      rw [hb] at hv
      have e2 : (if g = true then want else !want) = b1 := by
        cases want <;> simp only [Option.some.injEq] at h <;> subst h <;> cases b1 <;> rfl
      rw [e2]
      simpa [LL] using hv
    · simpa [LL, he] using hv
theorem pM {ops : Array Oper} {sl : Nat -> AVal} {j : Nat} {want g : Bool} (h : BY ops sl j want = some g) : BY ops (N8 ops sl j (if g then want else !want)) j want = some g := by
  rcases sB ops sl j (if g then want else !want) with e | ⟨t, b1, ht, hb, e⟩
  · rw [e]; exact h
  · rw [e]
    unfold BY
    rw [ht]
    simp only [LL, if_true]
    cases want <;> cases g <;> rfl
def QU (P : Program) (Γ : FuncId -> Option Spec) (md : Nat -> Nat) (ops : Array Oper) (base n : Nat) (K : AState -> Prop) : List Oper -> Nat -> AState -> Prop
  | [], _, σ => K σ
  | o :: l, k, σ => if xH n o then match o.guard with
      | none => match md k with
        | 0 => Wh P Γ false ops (base + 16 * k) o σ (QU P Γ md ops base n K l (k + 1))
        | 1 => Wh P Γ true ops (base + 16 * k) o σ (QU P Γ md ops base n K l (k + 1))
        | 3 => AWV P (base + 16 * k) o σ (QU P Γ md ops base n K l (k + 1))
        | 4 => AWY P (base + 16 * k) o σ (QU P Γ md ops base n K l (k + 1))
        | 5 => AFE P (base + 16 * k) o σ (QU P Γ md ops base n K l (k + 1))
        | 6 => ARI o σ (QU P Γ md ops base n K l (k + 1))
        | 7 => AOU o σ (QU P Γ md ops base n K l (k + 1))
        | _ => AXO P Γ ops (base + 16 * k) o σ (QU P Γ md ops base n K l (k + 1))
      | some (j, want) => match BY ops σ.sl j want with
        | some g => match md k with
          | 8 => RR [g = true] (Wh P Γ false ops (base + 16 * k) { o with guard := none } σ (QU P Γ md ops base n K l (k + 1)))
          | 9 => RR [g = false] (QU P Γ md ops base n K l (k + 1) (σ.app o.dst (.opt false (.d (.v (.bool false)))) []))
          | 10 => bif g then Wh P Γ false ops (base + 16 * k) { o with guard := none } ⟨N8 ops σ.sl j want, σ.H⟩ (QU P Γ md ops base n K l (k + 1)) else QU P Γ md ops base n K l (k + 1) (AState.app ⟨N8 ops σ.sl j (!want), σ.H⟩ o.dst (.opt false (.d (.v (.bool false)))) [])
          | _ => Wh P Γ false ops (base + 16 * k) o σ (QU P Γ md ops base n K l (k + 1))
        | none => False
    else False
theorem fJ {Γ : FuncId -> Option Spec} (hΓ : wE P Γ) {mt : Bool} {ops : Array Oper} {r : Nat} {o : Oper} {K : AState -> Prop} (h : Wh P Γ mt ops r o σ K) : ∃ s : Stp, StepO P mt ops r σ o s.val s.upd s.touch /\ K (σ.app o.dst s.val s.upd) := by
  unfold Wh at h
  split at h
  · rename_i s hs
    obtain ⟨h1, h2⟩ := DU h
    obtain ⟨h3, h4⟩ := BD h1
    exact ⟨s, PZ hΓ hs h4 λ _ => h3, h2⟩
  · exact h.elim
theorem Rel.plain {ops : Array Oper} {o : Oper} {a : Act} {v : AVal} {y : Value} {w' : World} {K : Act -> World -> Prop} {Q : Exit -> Act -> World -> Prop} (h : Rel c B ι σ a w) (hg : o.guard = none) (hdst : ∀ d, o.dst = some d -> d < c.n) (hrun : Runs P a.eval o w y w') (hd : ES B ι σ.H w (BW σ.H []) v y w')
    (hK : ∀ B' ι' a' w', Rel c B' ι' (σ.app o.dst v []) a' w' -> K a' w') : if Region.wanted o (yielded ops a.tmps) then o.wpIn (Ev c.rd) 0 P a w K Q else (∀ f, o.about P w a.eval = some f -> (Ev c.rd).fn f) /\ K (a.put o.dst undef) w := by
  simp only [Region.wanted, hg, if_true]
  obtain ⟨B', ι', hR'⟩ := h.app hd hdst
  refine ⟨FS o a _, ?_⟩
  rw [Oper.semAt_eq _ _ _ hrun.not_defer]
  rcases hrun with hrun | ⟨hrun, rfl⟩
  · rw [hrun]; exact hK B' ι' _ _ hR'
  · rw [hrun]; exact hK B' ι' _ _ hR'
theorem Rel.plainU {ops : Array Oper} {o : Oper} {a : Act} {v : AVal} {y : Value} {w' : World} {u : List (Nat × HCell)} {K : Act -> World -> Prop} {Q : Exit -> Act -> World -> Prop} (h : Rel c B ι σ a w) (hg : o.guard = none) (hdst : ∀ d, o.dst = some d -> d < c.n) (hrun : Runs P a.eval o w y w') (hd : ES B ι σ.H w (BW σ.H u) v y w')
    (hK : ∀ B' ι' a' w', Rel c B' ι' (σ.app o.dst v u) a' w' -> K a' w') : if Region.wanted o (yielded ops a.tmps) then o.wpIn (Ev c.rd) 0 P a w K Q else (∀ f, o.about P w a.eval = some f -> (Ev c.rd).fn f) /\ K (a.put o.dst undef) w := by
  simp only [Region.wanted, hg, if_true]
  obtain ⟨B', ι', hR'⟩ := h.app hd hdst
  refine ⟨FS o a _, ?_⟩
  rw [Oper.semAt_eq _ _ _ hrun.not_defer]
  rcases hrun with hrun | ⟨hrun, rfl⟩
  · rw [hrun]; exact hK B' ι' _ _ hR'
  · rw [hrun]; exact hK B' ι' _ _ hR'
theorem AYI {D : Nat -> Prop} {id : Nat} {v : Value} (h : VRel B ι D (.bptr id 0) v) : v = .pointer (some ⟨(ι id).b, 0, none⟩) := by cases h; rfl
theorem MapIs.free {q : KeyK} {z : Value} {hs : Int -> Bool} {get : Int -> DVal} {st : Int -> Int} {es : Array MapEntry} {clock : Nat} (hM : MapIs B q z hs get st es clock) : ∃ M, hs M = false := by
  have bound : ∀ l : List MapEntry, (∀ e ∈ l, ∃ n, e.key = q.val n) -> ∃ M : Int, ∀ e ∈ l, ∀ n, e.key = q.val n -> n < M := by
    intro l
    induction l with
    | nil => intro _; exact ⟨0, λ e he => by cases he⟩
    | cons x l ih =>
      intro hl
      obtain ⟨M, hM⟩ := ih λ e he => hl e (List.mem_cons_of_mem _ he)
      obtain ⟨n, hn⟩ := hl x (by simp)
      refine ⟨max M (n + 1), λ e he n' hn' => ?_⟩
      rcases List.mem_cons.1 he with rfl | he
      · rw [hn] at hn'; cases KeyK.val_inj hn'; omega
      · have := hM e he n' hn'; omega
  obtain ⟨M, hM'⟩ := bound es.toList λ e he => by
    obtain ⟨i, hi⟩ := List.mem_iff_getElem?.1 he
    rw [Array.getElem?_toList] at hi
    obtain ⟨n, hn, _⟩ := hM.keys i e hi
    exact ⟨n, hn⟩
  refine ⟨M, ?_⟩
  cases hc : hs M with
  | false => rfl
  | true =>
    obtain ⟨i', e', k1, k2⟩ := hM.met M hc
    have := hM' e' (by simpa using Array.mem_of_getElem? k1) M k2
    omega
theorem J0 {r : Nat} {o : Oper} {K : AState -> Prop} {a : Act} (h : AFE P r o σ K) (hR : Rel c B ι σ a w) : ∃ y w' v u, Runs P a.eval o w y w' /\ ES B ι σ.H w (BW σ.H u) v y w' /\ K (σ.app o.dst v u) := by
  unfold AFE at h
  split at h
  case h_2 => exact h.elim
  rename_i t m ho
  split at h
  case h_2 => exact h.elim
  rename_i qz id q z has get st ht hm hr
  obtain ⟨k, e, hu, _, _⟩ := GN ht
  obtain ⟨hid, hv, es, clock, hb, hM⟩ := NO hm (CS hR.slots m) hR.mv.heap
  have hd : σ.H.dom id := by unfold Heap.dom; rw [hid]; simp
  have hlt : ∀ n, has n = true -> st n < clock := λ n hn => by
    obtain ⟨i, e, h1, h2⟩ := hM.met n hn
    obtain ⟨n', h3, _, h5, h6, _⟩ := hM.keys i e h1
    rw [h2] at h3; cases KeyK.val_inj h3
    omega
  have hne : id ≠ r := λ he => by rw [he, hr] at hid; cases hid
  refine ⟨.pointer (some ⟨w.heap.size, 0, none⟩), w.alloc (.mapIter (some (ι id).b) clock #[] clock), .bptr r 0, [(r, .live (.miter id has st (λ _ => false) none))], .inl ?_, ⟨B, MD ι r ⟨w.heap.size, 0⟩, Moved.new hR.mv.heap hr (q := 0) ?_, ?_⟩, h⟩
  · simp [execOp, ho, hv, Instr.range, run_underlying hu, CU hb, newObj, Sem.run]
  · have := ORel.miter (B := B) (ι := MD ι r ⟨w.heap.size, 0⟩) (D := (CH σ.H r (.live (.miter id has st (λ _ => false) none))).dom) (q := 0) (m := id) (hs := has) (st := st) (seen := λ _ => false) (cur := none) (since := clock) (stepped := clock) (sn := #[])
      (by unfold Heap.dom; rw [CV _ _ hne]; exact hd) (Nat.le_refl _) (λ n => ⟨hlt n, λ hn => by rw [(hM.miss n hn).2]; exact Int.le_refl _⟩) (λ n hn => by cases hn) (λ k => by simp) (λ k hk => by cases hk)
    rw [JL _ _ hne] at this; exact this
  · have := VRel.bptr (B := B) (ι := MD ι r ⟨w.heap.size, 0⟩) (D := (CH σ.H r (.live (.miter id has st (λ _ => false) none))).dom) (id := r) (c := 0) (VJ _)
    rw [CG] at this; exact this
theorem yD {id m : Nat} {hs : Int -> Bool} {st : Int -> Int} {seen : Int -> Bool} {cur : Option Int} (hid : σ.H id = .live (.miter m hs st seen cur)) (hH : HRel B ι σ.H w) : ∃ since stepped sn, w.heap[(ι id).b]? = some (.mapIter (some (ι m).b) since sn stepped) /\ σ.H.dom m /\ since <= stepped /\ (∀ n : Int, (hs n = true -> st n < since) /\ (hs n = false -> (since : Int) <= st n)) /\
    (∀ n : Int, seen n = true -> hs n = true) /\ (∀ k : Nat, sn.contains k = true ↔ ∃ n : Int, seen n = true /\ st n = k) /\ ∀ k : Int, cur = some k -> hs k = true /\ (∀ n : Int, hs n = false -> st n = stepped) /\ ∃ (sn' : Array Nat) (b : Nat), sn = sn'.push b /\ st k = b := by
  have ho := hH.obj _ _ hid
  generalize hq : w.heap[(ι id).b]? = x at ho
  cases ho with
  | miter hD h1 h2 h3 h4 h5 => exact ⟨_, _, _, rfl, hD, h1, h2, h3, h4, h5⟩
theorem AAI {o : Oper} {K : AState -> Prop} {a : Act} (h : ARI o σ K) (hR : Rel c B ι σ a w) : ∃ y w' v u, Runs P a.eval o w y w' /\ ES B ι σ.H w (BW σ.H u) v y w' /\ K (σ.app o.dst v u) := by
  unfold ARI at h
  split at h
  case h_2 => exact h.elim
  rename_i it ho
  split at h
  case h_2 => exact h.elim
  rename_i id hit
  split at h
  case h_2 => exact h.elim
  rename_i m hs st seen cur hid
  split at h
  case h_2 => exact h.elim
  rename_i q z has get st' hmm
  obtain ⟨e1, e2, hK1, hK2⟩ := h
  obtain rfl : hs = has := funext e1
  obtain rfl : st = st' := funext e2
  have hv := CS hR.slots it
  rw [hit] at hv
  have hv := AYI hv
  have hH := hR.mv.heap
  obtain ⟨since, stepped, sn, hi, hD, s1, s2, s3, s4, s5⟩ := yD hid hH
  have hob := hH.obj _ _ hmm
  generalize hq : w.heap[(ι m).b]? = x at hob
  cases hob with
  | imap hM =>
  rename_i es clock
  have hold : ∀ x ∈ es.toList, x.born < since := λ x hx => by
    obtain ⟨i, hi, rfl⟩ := List.getElem_of_mem hx
    obtain ⟨n, _, h2, _, h4, _⟩ := hM.keys i es[i] (by simp at hi; simp [hi])
    have := (s2 n).1 h2
    simp only [Array.getElem_toList]; omega
  rcases run_next_at (P := P) w o.type (ι id).b (ι m).b since stepped sn es clock hi hq hold s1 with ⟨h0, hrun⟩ | ⟨e, he, w1, hw1, hrun⟩
  · refine ⟨.tuple #[.bool false], w, _, [], .inl (by simp [execOp, ho, hv, hrun, Result.andThen]), ⟨B, ι, Moved.refl hH, .d (.tup rfl λ j x y hx hy => ?_)⟩, hK1 λ n hn => ?_⟩
    · match j with
      | 0 => simp at hx hy; subst hx; subst hy; exact .v _
      | j + 1 => simp at hx
    · obtain ⟨i, e, h1, h2⟩ := hM.met n hn
      obtain ⟨n', h3, _, _, h6, _⟩ := hM.keys i e h1
      rw [h2] at h3; cases h3
      have hc : sn.contains e.born = true := by
        cases hc : sn.contains e.born with
        | true => rfl
        | false =>
          have : e ∈ leftOf es sn := by
            unfold leftOf
            rw [Array.mem_filter]
            exact ⟨Array.mem_of_getElem? h1, by rw [hc]; rfl⟩
          have := Array.size_pos_of_mem this
          omega
      obtain ⟨n', g1, g2⟩ := (s4 e.born).1 hc
      obtain ⟨i', e', k1, k2⟩ := hM.met n' (s3 n' g1)
      obtain ⟨n2, k3, _, _, k6, _⟩ := hM.keys i' e' k1
      rw [k2] at k3; cases k3
      have := hM.once i i' e e' h1 k1 (.inr (by omega))
      subst this
      rw [h1] at k1; cases k1
      rw [h2] at k2; cases k2
      exact g1
  · have hem : e ∈ es.toList /\ sn.contains e.born = false := by
      unfold leftOf at he
      simp only [Array.toList_filter, List.mem_filter, Bool.not_eq_true'] at he
      exact he
    obtain ⟨i, hi', hei⟩ := List.getElem_of_mem hem.1
    have h1 : es[i]? = some e := by rw [<- hei]; simp at hi'; simp [hi']
    obtain ⟨k, h2, h3, h4, h5, h6⟩ := hM.keys i e h1
    have hsk : seen k = false := by
      cases hc : seen k with
      | false => rfl
      | true => rw [(s4 e.born).2 ⟨k, hc, h5.symm⟩] at hem; exact absurd hem.2 (by simp)
    have mv1 : Moved B ι σ.H w B ι σ.H w1 := by
      rcases hw1 with rfl | rfl
      · exact Moved.refl hH
      · exact Moved.drew hH _
    refine ⟨.tuple #[.bool true, e.key, e.val], _, _, _, .inl (by simp [execOp, ho, hv, hrun, Result.andThen]; rfl), ?_, hK2 k h3 hsk⟩
    have ht := Moved.turn (o := .miter m hs st (λ j => decide (j = k) || seen j) (some k)) mv1.heap hid (x := .mapIter (some (ι m).b) since (sn.push e.born) clock) (.miter (by
        unfold Heap.dom CH; split
        · simp
        · exact hD) (by
        obtain ⟨M, hM0⟩ := hM.free
        have := (s2 M).2 hM0
        have := (hM.miss M hM0).2
        omega) s2 (λ n hn => by
        simp only [Bool.or_eq_true, decide_eq_true_eq] at hn
        rcases hn with rfl | hn
        · exact h3
        · exact s3 n hn) (λ b => by
        rw [Array.contains_push]
        simp only [Bool.or_eq_true, beq_iff_eq, s4 b, decide_eq_true_eq]
        constructor
        · rintro (⟨n, g1, g2⟩ | rfl)
          · exact ⟨n, .inr g1, g2⟩
          · exact ⟨k, .inl rfl, h5.symm⟩
        · rintro ⟨n, rfl | g1, g2⟩
          · right; omega
          · exact .inl ⟨n, g1, g2⟩) λ k' hk' => by
        cases hk'
        exact ⟨h3, λ n hn => (hM.miss n hn).2, sn, e.born, rfl, h5.symm⟩)
    refine ⟨B, ι, mv1.trans ht, .d (.tup rfl λ j x y hx hy => ?_)⟩
    match j with
    | 0 => simp at hx hy; subst hx; subst hy; exact .v _
    | 1 => simp at hx hy; subst hx; subst hy; rw [h2]; exact .v _
    | 2 => simp at hx hy; subst hx; subst hy; exact h6
    | j + 3 => simp at hx
theorem ABD {o : Oper} {K : AState -> Prop} {a : Act} (h : AOU o σ K) (hR : Rel c B ι σ a w) : ∃ y w' v u, Runs P a.eval o w y w' /\ ES B ι σ.H w (BW σ.H u) v y w' /\ K (σ.app o.dst v u) := by
  unfold AOU at h
  split at h
  case h_2 => exact h.elim
  rename_i it ho
  split at h
  case h_2 => exact h.elim
  rename_i id hit
  split at h
  case h_2 => exact h.elim
  rename_i m hs st seen k hid
  split at h
  case h_2 => exact h.elim
  rename_i q z has get st' hmm
  obtain ⟨e1, e2, hK⟩ := h
  obtain rfl : hs = has := funext e1
  obtain rfl : st = st' := funext e2
  have hv := CS hR.slots it
  rw [hit] at hv
  have hv := AYI hv
  have hH := hR.mv.heap
  obtain ⟨since, stepped, sn, hi, hD, s1, s2, s3, s4, s5⟩ := yD hid hH
  obtain ⟨h3, hmiss, sn', b, rfl, hb⟩ := s5 k rfl
  have hob := hH.obj _ _ hmm
  generalize hq : w.heap[(ι m).b]? = x at hob
  cases hob with
  | imap hM =>
  rename_i es clock
  obtain ⟨i, e, h1, h2⟩ := hM.met k h3
  obtain ⟨n', g1, _, _, h5, h6⟩ := hM.keys i e h1
  rw [h2] at g1; cases g1
  have hcl : stepped = clock := by
    obtain ⟨M, hno⟩ := hM.free
    have a1 := hmiss M hno
    have a2 := (hM.miss M hno).2
    omega
  subst hcl
  obtain rfl : b = e.born := by omega
  have hnd : (es.toList.map (·.born)).Nodup := by
    rw [List.nodup_iff_pairwise_ne, List.pairwise_map, List.pairwise_iff_getElem]
    intro i j hi hj hij he
    have := hM.once i j es[i] es[j] (by simp at hi; simp [hi]) (by simp at hj; simp [hj]) (.inr (by simpa using he))
    omega
  have hrun := run_entry_at (P := P) w (ι id).b (ι m).b since sn' es stepped e hi hq (by simpa using Array.mem_of_getElem? h1) hnd
  refine ⟨.tuple #[e.key, e.val], w, _, [], .inl (by simp [execOp, ho, hv, hrun, Result.andThen]), ⟨B, ι, Moved.refl hH, .d (.tup rfl λ j x y hx hy => ?_)⟩, hK⟩
  match j with
  | 0 => simp at hx hy; subst hx; subst hy; rw [h2]; exact .v _
  | 1 => simp at hx hy; subst hx; subst hy; exact h6
  | j + 2 => simp at hx
theorem ET {Γ : FuncId -> Option Spec} (hΓ : wE P Γ) {md : Nat -> Nat} {ops : Array Oper} {base : Nat} : ∀ (l : List Oper) (k : Nat) (σ : AState), QU P Γ md ops base c.n (Q .normal) l k σ -> ∀ B ι a w, Rel c B ι σ a w ->
    wpListIn (Ev c.rd) 0 P ops (λ e a' w' => ∃ B' ι' σ', Q e σ' /\ Rel c B' ι' σ' a' w') l a w
  | [], _, σ, h, B, ι, _, _, hR => ⟨B, ι, σ, h, hR⟩
  | o :: l, k, σ, h, B, ι, a, w, hR => by
    unfold QU at h
    split at h
    case isFalse => exact h.elim
    rename_i hc
    have hd := OA hc
    have step : ∀ {mt : Bool}, Wh P Γ mt ops (base + 16 * k) o σ (QU P Γ md ops base c.n (Q .normal) l (k + 1)) -> wpListIn (Ev c.rd) 0 P ops (λ e a' w' => ∃ B' ι' σ', Q e σ' /\ Rel c B' ι' σ' a' w') (o :: l) a w := λ h => by
      obtain ⟨s, h1, h2⟩ := fJ hΓ h
      exact h1.sound hR hd λ B' ι' a' w' hR' => ET hΓ l (k + 1) _ h2 B' ι' a' w' hR'
    have met : ∀ {σ : AState}, Rel c B ι σ a w -> ∀ {j : Nat} {want : Bool}, o.guard = some (j, want) -> BY ops σ.sl j want = some true -> Wh P Γ false ops (base + 16 * k) { o with guard := none } σ (QU P Γ md ops base c.n (Q .normal) l (k + 1)) -> wpListIn (Ev c.rd) 0 P ops (λ e a' w' => ∃ B' ι' σ', Q e σ' /\ Rel c B' ι' σ' a' w') (o :: l) a w := λ {σ} hR {j} {want} hgd hgA hk => by
      obtain ⟨s, h1, h2⟩ := fJ hΓ hk
      have hw := HE hgd hgA hR.slots
      unfold wpListIn
      show if Region.wanted o (yielded ops a.tmps) then _ else _
      rw [hw]
      have := h1.sound (Q := (λ e a' w' => ∃ B' ι' σ', Q e σ' /\ Rel c B' ι' σ' a' w')) hR hd λ B' ι' a' w' hR' => ET hΓ l (k + 1) _ h2 B' ι' a' w' hR'
      simp only [Region.wanted, if_true] at this
      rw [if_pos rfl]
      exact this
    have unmet : ∀ {σ : AState}, Rel c B ι σ a w -> ∀ {j : Nat} {want : Bool}, o.guard = some (j, want) -> BY ops σ.sl j want = some false -> QU P Γ md ops base c.n (Q .normal) l (k + 1) (σ.app o.dst (.opt false (.d (.v (.bool false)))) []) -> wpListIn (Ev c.rd) 0 P ops (λ e a' w' => ∃ B' ι' σ', Q e σ' /\ Rel c B' ι' σ' a' w') (o :: l) a w := λ {σ} hR {j} {want} hgd hgA hk => by
      have hw := HE hgd hgA hR.slots
      unfold wpListIn
      show if Region.wanted o (yielded ops a.tmps) then _ else _
      rw [hw, if_neg (by simp)]
      obtain ⟨B', ι', hR'⟩ := hR.app (dst := o.dst) (v := .opt false (.d (.v (.bool false)))) (y := undef) (u := []) ⟨B, ι, Moved.refl hR.mv.heap, .opt (λ h => by cases h) (λ _ => rfl)⟩ hd
      exact ⟨FS o a _, ET hΓ l (k + 1) _ hk B' ι' _ _ hR'⟩
    split at h
    case h_2 =>
      rename_i j want hgd
      split at h
      case h_2 => exact h.elim
      rename_i g hgA
      split at h
      · obtain ⟨hgt, hk⟩ := DU h
        have hgt : g = true := hgt
        subst hgt
        exact met hR hgd hgA hk
      · obtain ⟨hgt, hk⟩ := DU h
        have hgt : g = false := hgt
        subst hgt
        exact unmet hR hgd hgA hk
      · cases g with
        | true => exact met (σ := ⟨N8 ops σ.sl j want, σ.H⟩) ⟨λ t => X4 (g := true) hgA t (hR.slots t), hR.size, hR.defers, hR.mv⟩ hgd (pM (g := true) hgA) h
        | false => exact unmet (σ := ⟨N8 ops σ.sl j (!want), σ.H⟩) ⟨λ t => X4 (g := false) hgA t (hR.slots t), hR.size, hR.defers, hR.mv⟩ hgd (pM (g := false) hgA) h
      · exact step h
    rename_i hg
    split at h
    · exact step h
    · exact step h
    · unfold AWV at h
      split at h
      case h_2 => exact h.elim
      rename_i t m ix ho
      split at h
      case h_2 => exact h.elim
      rename_i b d z p hl
      obtain ⟨hp, h⟩ := DU h
      obtain ⟨v, hrun, h1, h2⟩ := Z9 hl hp (CS hR.slots m) (CS hR.slots ix) hR.mv.heap
      have hr : Runs P a.eval o w (.tuple #[v, .bool b]) w := .inl (by simp only [execOp, ho, Sem.run_bind, hrun, Result.andThen_ok, Sem.run_pure])
      cases b with
      | true =>
        refine hR.plain hg hd hr ⟨B, ι, Moved.refl hR.mv.heap, .d (.tup rfl λ j x y hx hy => ?_)⟩ λ B' ι' a' w' hR' => ET hΓ l (k + 1) _ h B' ι' a' w' hR'
        match j with
        | 0 => simp at hx hy; subst hx; subst hy; exact h1 rfl
        | 1 => simp at hx hy; subst hx; subst hy; exact .v _
        | j + 2 => simp at hx
      | false =>
        refine hR.plain hg hd hr ⟨B, ι, Moved.refl hR.mv.heap, .d (.tup rfl λ j x y hx hy => ?_)⟩ λ B' ι' a' w' hR' => ET hΓ l (k + 1) _ h B' ι' a' w' hR'
        match j with
        | 0 => simp at hx hy; subst hx; subst hy; rw [h2 rfl]; exact UQ z
        | 1 => simp at hx hy; subst hx; subst hy; exact .v _
        | j + 2 => simp at hx
    · unfold AWY at h
      split at h
      case h_2 => exact h.elim
      rename_i t len ps ho
      split at h
      case h_2 => exact h.elim
      rename_i v0 r0 kk n get p0 hb
      obtain ⟨k', n', get', y, w', he, h1, h2⟩ := YI (parts := ps.map λ x => (x.1, a.eval x.2)) hb hR.mv.heap (by simp) (λ j x y hx hy => by
        obtain ⟨z, hz, rfl⟩ := XS hx
        rw [Array.getElem?_toList] at hz
        simp [hz] at hy
        subst hy
        exact ⟨rfl, CS hR.slots z.2⟩)
      simp only [Eff.mk.injEq, List.cons.injEq, Prod.mk.injEq, HCell.live.injEq, AObj.row.injEq, and_true] at he
      obtain ⟨_, ⟨_, rfl, rfl, rfl⟩, _⟩ := he
      exact hR.plain hg hd (.inl (by simp [execOp, ho, h1])) h2 λ B' ι' a' w' hR' => ET hΓ l (k + 1) _ h B' ι' a' w' hR'
    · obtain ⟨y, w1, v, u, h1, h2, h3⟩ := J0 h hR
      exact hR.plainU hg hd h1 h2 λ B' ι' a' w' hR' => ET hΓ l (k + 1) _ h3 B' ι' a' w' hR'
    · obtain ⟨y, w1, v, u, h1, h2, h3⟩ := AAI h hR
      exact hR.plainU hg hd h1 h2 λ B' ι' a' w' hR' => ET hΓ l (k + 1) _ h3 B' ι' a' w' hR'
    · obtain ⟨y, w1, v, u, h1, h2, h3⟩ := ABD h hR
      exact hR.plainU hg hd h1 h2 λ B' ι' a' w' hR' => ET hΓ l (k + 1) _ h3 B' ι' a' w' hR'
    · unfold AXO at h
      split at h
      case h_2 => exact h.elim
      rename_i s hs
      split at h
      case h_2 => exact h.elim
      rename_i d id kk n hdst hval
      split at h
      case h_2 => exact h.elim
      rename_i k2 n2 get hid
      split at h
      case isFalse => exact h.elim
      rename_i hkk
      rw [DK] at hkk
      subst hkk
      obtain ⟨h1, h2⟩ := DU h
      obtain ⟨h3, h4⟩ := BD h1
      obtain ⟨h5, h6⟩ := BD h4
      have st := PZ hΓ hs h5 λ _ => h3
      refine st.sound hR hd λ B' ι' a' w' hR' => ?_
      obtain ⟨B2, hR2⟩ := hR'.frz (dst := some d) (n := n) (get := get) (id := id) hid (λ d' hd' => by
        cases hd'
        simp only [AState.app, Er, hdst, if_true]; exact hval) h6
      have e : (⟨LL (σ.app o.dst s.val s.upd).sl (some d) (.d (.list kk n get false)), CH (σ.app o.dst s.val s.upd).H id .dead⟩ : AState) = ⟨LL σ.sl (some d) (.d (.list kk n get false)), CH (BW σ.H s.upd) id .dead⟩ := by
        simp only [AState.app, hdst]
        congr 1
        funext t
        simp only [Er]
        split <;> rfl
      rw [e] at hR2
      exact ET hΓ l (k + 1) _ h2 B2 ι' a' w' hR2
theorem wH {Γ : FuncId -> Option Spec} (hΓ : wE P Γ) {md : Nat -> Nat} {ops : Array Oper} {base id : Nat} (h : QU P Γ md ops base c.n (Q .normal) ops.toList 0 σ) : CodeE P c (.region id ops false) Q σ :=
  λ B ι a w hR => wpIn_region_list (ET hΓ ops.toList 0 σ h B ι a w hR)
end Go.Sym
