/- A list of operations, reckoned. -/
import Derived.Test.YtdbjalgfomknhaaGreatSym8
set_option linter.unusedVariables false
set_option linter.unusedSimpArgs false
namespace Go.Sym
variable {P : Program} {B B' : Fg} {ι ι' : Nat -> Pl} {H H' : Heap} {D : Nat -> Prop} {w w' : World} {c : Ctx} {σ : AState} {Q : Exit -> AState -> Prop}
structure CallR where
  ids : List Nat
  val : AVal
  upd : List (Nat × HCell)
  pre : List Prop
abbrev Spec := List AVal -> Heap -> Nat -> Option CallR
def AK (P : Program) (g : FuncId) (s : Spec) : Prop := ∀ as H r x, s as H r = some x -> EF x.pre -> ABJ P g as r (x.ids.map λ i => (i, H i)) x.val x.upd
def isNone : HCell -> Bool
  | .none => true
  | _ => false
theorem Rx {c : HCell} (h : isNone c = true) : c = .none := by cases c <;> first | rfl | cases h
def Rt (H : Heap) (r : Nat) : Bool := (List.range 16).all λ i => isNone (H (r + i))
theorem Iu {r : Nat} (h : Rt H r = true) : ∀ i, r <= i -> i < r + 16 -> H i = .none := λ i h1 h2 => by
  simp only [Rt, List.all_eq_true, List.mem_range] at h
  have := Rx (h (i - r) (by omega))
  rwa [show r + (i - r) = i by omega] at this
def ACC (n : Nat) (o : Oper) : Bool := match o.dst with
  | some d => Nat.blt d n
  | none => true
theorem Sr {n : Nat} {o : Oper} (h : ACC n o = true) : ∀ d, o.dst = some d -> d < n := by
  intro d hd
  simpa [ACC, hd] using h
structure Stp where
  val : AVal
  upd : List (Nat × HCell)
  touch : List Nat
  pre : List Prop
def O4 (Γ : FuncId -> Option Spec) (r : Nat) (f : AVal) (args : List AVal) (H : Heap) : Option CallR := match f with
  | .fn (.func g) first caps => match Γ g with
    | some s => s (first ++ args ++ caps) H r
    | none => none
  | _ => none
def gopB (P : Program) (r : Nat) (ρ : Operand -> AVal) (H : Heap) (g : Bool) (op : Op) : Option (AVal × List Prop) := match op with
  | .pick c a b => match EA (ρ c) with
    | .d (.v (.bool t)) => some (N7 t (EA (ρ a)) (EA (ρ b)), [])
    | _ => none
  | .buildSlice t len ps => match XN P r t len (ps.toList.map λ p => (p.1, EA (ρ p.2))) with
    | some ⟨_, [(_, .live (.row k n get))], _⟩ => some (.d (.list k n get true), [])
    | _ => none
  | .makeSlice t l c => match Fq P r t (EA (ρ l)) (EA (ρ c)) with
    | some ⟨_, [(_, .live (.row k n get))], p⟩ => some (.d (.list k n get true), Wq g p)
    | _ => none
  | op => match opA P false r (λ x => EA (ρ x)) H op with
    | some ⟨v, [], p⟩ => some (v, Wq g p)
    | _ => none
def BKI (P : Program) (Γ : FuncId -> Option Spec) (mt : Bool) (r : Nat) (σ : AState) : Op -> Option Stp
  | .call ⟨.value f, args, _⟩ => match O4 Γ r (BP σ.sl f) (args.toList.map (BP σ.sl)) σ.H with
    | some x => if Rt σ.H r then some ⟨x.val, x.upd, x.ids ++ (List.range 16).map (r + ·), x.pre⟩ else none
    | none => none
  | .call ⟨.invoke x m, args, _⟩ => match BP σ.sl x with
    | .d (.iface t d) => match L3 P t m with
      | some g => match O4 Γ r (.fn (.func g) [.d d] []) (args.toList.map (BP σ.sl)) σ.H with
        | some x => if Rt σ.H r then some ⟨x.val, x.upd, x.ids ++ (List.range 16).map (r + ·), x.pre⟩ else none
        | none => none
      | none => none
    | _ => none
  | .pick c a b => match BP σ.sl c with
    | .d (.v (.bool t)) => if isNone (σ.H r) then some ⟨N7 t (EA (BP σ.sl a)) (EA (BP σ.sl b)), [], r :: Uh (BP σ.sl) (.pick c a b), []⟩ else none
    | _ => none
  | op => match opA P mt r (BP σ.sl) σ.H op with
    | some e => if isNone (σ.H r) then some ⟨e.val, e.upd, r :: Uh (BP σ.sl) op, e.pre⟩ else none
    | none => none
def stepG (P : Program) (Γ : FuncId -> Option Spec) (r : Nat) (σ : AState) (g : Bool) : Op -> Option (AVal × List Nat × List Prop)
  | .call ⟨.value f, args, _⟩ => match O4 Γ r (EA (BP σ.sl f)) (args.toList.map λ x => EA (BP σ.sl x)) σ.H with
    | some ⟨ids, v, [], p⟩ => if Rt σ.H r then some (v, ids ++ (List.range 16).map (r + ·), Wq g p) else none
    | _ => none
  | op => match gopB P r (BP σ.sl) σ.H g op with
    | some (v, p) => if isNone (σ.H r) then some (v, r :: Uh (λ x => EA (BP σ.sl x)) op, p) else none
    | none => none
def I9 (P : Program) (Γ : FuncId -> Option Spec) (mt : Bool) (ops : Array Oper) (r : Nat) (σ : AState) (o : Oper) : Option Stp := match o.guard with
  | none => BKI P Γ mt r σ o.op
  | some (j, want) => match IQ ops σ.sl j want with
    | some g => match stepG P Γ r σ g o.op with
      | some (v, touch, p) => some ⟨.opt g v, [], touch, p⟩
      | none => none
    | none => none
theorem Wy {g : Bool} {l : List Prop} (h : g = true -> EF l) : EF (Wq g l) := by
  cases l with
  | nil => trivial
  | cons => exact h
theorem jD {op : Op} (h : ∀ c a b, op = .pick c a b -> False) (sl : Nat -> AVal) (o : Oper) (ho : o.op = op) (q : Nat × Bool) (hq : o.guard = some q) : aQ sl o = Bk (BP sl) op.operands.toList := by
  unfold aQ
  rw [ho, hq]
  cases op <;> first | rfl | exact (h _ _ _ rfl).elim
def GOk (P : Program) (Γ : FuncId -> Option Spec) : Prop := ∀ g s, Γ g = some s -> AK P g s
theorem Tj {Γ : FuncId -> Option Spec} (hΓ : GOk P Γ) {r : Nat} {f : AVal} {args : List AVal} {x : CallR} (h : O4 Γ r f args H = some x) : ∃ g first caps, f = .fn (.func g) first caps /\ (EF x.pre -> ABJ P g (first ++ args ++ caps) r (x.ids.map λ i => (i, H i)) x.val x.upd) := by
  unfold O4 at h
  split at h
  · rename_i g first caps
    split at h
    · rename_i s hs
      exact ⟨g, first, caps, rfl, hΓ g s hs _ _ _ _ h⟩
    · cases h
  · cases h
theorem Wb (l : List Nat) (H : Heap) : ∀ p ∈ l.map (λ i => (i, H i)), H p.1 = p.2 := λ p hp => by
  obtain ⟨i, _, rfl⟩ := List.mem_map.1 hp; rfl
theorem ATS {r : Nat} {sl : Nat -> AVal} {g : Bool} {o : Oper} {q : Nat × Bool} {v : AVal} {p : List Prop} (h : gopB P r (BP sl) H g o.op = some (v, p)) (hq : o.guard = some q) (hp : EF p) (ht : g = true -> EF (aQ sl o)) : ∃ p', P7 P r (BP sl) H g o.op = some (v, p') /\ EF p' := by
  unfold gopB at h
  split at h
  · rename_i c a b ho
    split at h
    · rename_i t hc
      cases h
      refine ⟨Wq g (Lx True (BP sl c) ++ (Lx (t = true) (BP sl a) ++ Lx (t = false) (BP sl b))), by rw [ho]; simp only [P7, hc], Wy λ hg => ?_⟩
      have := ht hg
      unfold aQ at this
      rw [ho, hq] at this
      simp only [hc] at this
      exact this
    · cases h
  · rename_i t len ps ho
    split at h
    · rename_i hb
      cases h
      refine ⟨Wq g (Bk (BP sl) (Op.buildSlice t len ps).operands.toList), by rw [ho]; simp only [P7, hb], Wy λ hg => ?_⟩
      have := ht hg
      rw [jD (λ _ _ _ h => by cases h) sl o ho _ hq] at this
      exact this
    · cases h
  · rename_i t l c ho
    split at h
    · rename_i v0 r0 k n get p0 hb
      cases h
      refine ⟨Wq g (Lx True (BP sl l) ++ (Lx True (BP sl c) ++ p0)), by rw [ho]; simp only [P7, hb], Wy λ hg => ?_⟩
      have := ht hg
      rw [jD (λ _ _ _ h => by cases h) sl o ho _ hq] at this
      exact UQ.2 ⟨Nv this l (by simp [Op.operands]), UQ.2 ⟨Nv this c (by simp [Op.operands]), Cm hp hg⟩⟩
    · cases h
  · rename_i h1 h2 h3
    split at h
    · rename_i e1 e2 ho
      cases h
      refine ⟨Wq g (Bk (BP sl) o.op.operands.toList ++ e2), ?_, Wy λ hg => ?_⟩
      · unfold P7
        split
        · rename_i c a b hop; exact (h1 c a b hop).elim
        · rename_i t len ps hop; exact (h2 t len ps hop).elim
        · rename_i t l c hop; exact (h3 t l c hop).elim
        · rw [ho]
      · have := ht hg
        rw [jD (λ c a b h => h1 c a b h) sl o rfl _ hq] at this
        exact UQ.2 ⟨this, Cm hp hg⟩
    · cases h
theorem H9 {Γ : FuncId -> Option Spec} {mt : Bool} {ops : Array Oper} {r : Nat} {o : Oper} {s : Stp} (h : I9 P Γ mt ops r σ o = some s) (q : Nat × Bool) (hq : o.guard = some q) : ∃ g v, s.val = .opt g v /\ IQ ops σ.sl q.1 q.2 = some g := by
  unfold I9 at h
  rw [hq] at h
  simp only at h
  split at h
  · rename_i g hg
    split at h
    · cases h; exact ⟨g, _, rfl, hg⟩
    · cases h
  · cases h
theorem Xa {Γ : FuncId -> Option Spec} (hΓ : GOk P Γ) {mt : Bool} {ops : Array Oper} {r : Nat} {o : Oper} {s : Stp} (h : I9 P Γ mt ops r σ o = some s) (hp : EF s.pre) (ht : (∀ q, o.guard = some q -> IQ ops σ.sl q.1 q.2 = some true) -> EF (aQ σ.sl o)) : StepO P mt ops r σ o s.val s.upd s.touch := by
  have mp : ∀ (l : List Nat), (l.map λ i => (i, σ.H i)).map (·.1) = l := λ l => by
    induction l with
    | nil => rfl
    | cons a l ih => simp only [List.map_cons, ih]
  have ht' : ∀ {j want g}, o.guard = some (j, want) -> IQ ops σ.sl j want = some g -> g = true -> EF (aQ σ.sl o) := λ hg hw hgt => ht λ q hq => by
    rw [hg] at hq; cases hq; rw [hw, hgt]
  unfold I9 at h
  split at h
  · rename_i hg
    unfold BKI at h
    split at h
    · rename_i f args ats ho
      split at h
      · rename_i x hx
        split at h
        · rename_i hf
          cases h
          obtain ⟨g, first, caps, he, hc⟩ := Tj hΓ hx
          have := StepO.call (mt := mt) (ops := ops) hg ho he (hc hp) (Wb _ _) (Iu hf)
          rw [mp] at this; exact this
        · cases h
      · cases h
    · rename_i y m args ats ho
      split at h
      · rename_i t d hy
        split at h
        · rename_i g0 hm
          split at h
          · rename_i x hx
            split at h
            · rename_i hf
              cases h
              obtain ⟨g, first, caps, he, hc⟩ := Tj hΓ hx
              cases he
              have hc' := hc hp
              simp only [List.cons_append, List.nil_append, List.append_nil] at hc'
              have := StepO.inv (mt := mt) (ops := ops) hg ho hy hm hc' (Wb _ _) (Iu hf)
              rw [mp] at this; exact this
            · cases h
          · cases h
        · cases h
      · cases h
    · rename_i c a b ho
      split at h
      · rename_i t hc
        split at h
        · rename_i hf
          cases h
          have h0 := ht λ q hq => by rw [hg] at hq; cases hq
          have h1 : EF (Lx (t = true) (BP σ.sl a) ++ Lx (t = false) (BP σ.sl b)) := by
            unfold aQ at h0
            rw [ho, hg] at h0
            simp only [hc, EA, Lx, List.nil_append] at h0
            exact h0
          have := StepO.op (P := P) (mt := mt) (ops := ops) (r := r) (σ := σ) (o := o) (e := ⟨N7 t (EA (BP σ.sl a)) (EA (BP σ.sl b)), [], Lx (t = true) (BP σ.sl a) ++ Lx (t = false) (BP σ.sl b)⟩) hg (by rw [ho]; simp only [opA, hc]) h1 (Rx hf)
          rw [ho] at this; exact this
        · cases h
      · cases h
    · split at h
      · rename_i e he
        split at h
        · rename_i hf
          cases h
          exact .op hg he hp (Rx hf)
        · cases h
      · cases h
  · rename_i j want hg
    split at h
    · rename_i g hw
      split at h
      · rename_i v touch p hst
        cases h
        unfold stepG at hst
        split at hst
        · rename_i f args ats ho
          split at hst
          · rename_i ids v p hx
            split at hst
            · rename_i hf
              cases hst
              obtain ⟨g', first, caps, he, hc⟩ := Tj hΓ hx
              have := StepO.gcall (mt := mt) (ops := ops) (r := r) hg hw ho he (λ h => by
                have := ht' hg hw h
                rw [jD (λ _ _ _ h => by cases h) σ.sl o ho _ hg] at this
                rw [ho]; exact this) (λ h => hc (Cm hp h)) (Wb _ _) (Iu hf)
              rw [mp] at this; exact this
            · cases hst
          · cases hst
        · split at hst
          · rename_i v p he
            split at hst
            · rename_i hf
              cases hst
              obtain ⟨p', h1, h2⟩ := ATS (sl := σ.sl) (o := o) he hg hp (ht' hg hw)
              exact .gop hg hw h1 h2 (Rx hf)
            · cases hst
          · cases hst
      · cases h
    · cases h
structure Run where
  st : AState
  pre : List Prop
  tab : List (List Nat × List Nat)
theorem oC (sl : Nat -> AVal) (dst : Option Tmp) (v : AVal) (t : Nat) : Yt sl dst v t = if dst = some t then v else sl t := by
  cases dst with
  | none => simp [Yt]
  | some d =>
    by_cases h : t = d
    · simp [Yt, h]
    · simp [Yt, h, Ne.symm h]
def tagC (ops : Array Oper) (k : Nat) (σ : AState) (o : Oper) : List Prop := match o.guard with
  | none => ARD ops k σ.sl o
  | some (j, want) => match IQ ops σ.sl j want with
    | some g => Wq g (ARD ops k σ.sl o)
    | none => []
def AAR (P : Program) (Γ : FuncId -> Option Spec) (mt : Bool) (ops : Array Oper) (base n : Nat) : List Oper -> Nat -> AState -> Option Run
  | [], _, σ => some ⟨σ, [], []⟩
  | o :: l, k, σ => if ACC n o then match I9 P Γ mt ops (base + 16 * k) σ o with
      | some s => match AAR P Γ mt ops base n l (k + 1) (σ.app o.dst s.val s.upd) with
        | some x => some ⟨x.st, tagC ops k σ o ++ (s.pre ++ x.pre), (s.touch, s.upd.map (·.1)) :: x.tab⟩
        | none => none
      | none => none
    else none
def jH (l : List (List Nat × List Nat)) : pE := λ k => l.getD k ([], [])
theorem zC {ops : Array Oper} {k : Nat} {o : Oper} (hI : GInv ops σ.sl k) (hl : L0 ops.toList 0 = true) (ho : ops[k]? = some o) (h : EF (tagC ops k σ o)) (hg : ∀ q, o.guard = some q -> IQ ops σ.sl q.1 q.2 = some true) : EF (aQ σ.sl o) := by
  refine AMK hI hl ho hg ?_
  unfold tagC at h
  split at h
  · exact h
  · rename_i j want hq
    have := hg _ hq
    simp only at this
    rw [this] at h
    exact Cm h rfl
theorem tD {Γ : FuncId -> Option Spec} (hΓ : GOk P Γ) {mt : Bool} {ops : Array Oper} {base n : Nat} {K : AState -> Prop} (hl : L0 ops.toList 0 = true) (hd : Hg ops.toList = true) : ∀ (l : List Oper) (σ : AState) (x : Run) (T0 : List (List Nat × List Nat)), ops.toList.drop T0.length = l -> GInv ops σ.sl T0.length -> AAR P Γ mt ops base n l T0.length σ = some x -> EF x.pre -> K x.st ->
    LexT P mt ops base n (jH (T0 ++ x.tab)) K l T0.length σ
  | [], σ, x, T0, _, _, h, _, hK => by simp only [AAR, Option.some.injEq] at h; subst h; exact hK
  | o :: l, σ, x, T0, hdr, hI, h, hp, hK => by
    simp only [AAR] at h
    have ho : ops[T0.length]? = some o := by
      have : (ops.toList.drop T0.length)[0]? = some o := by rw [hdr]; rfl
      simpa using this
    split at h
    · rename_i hdo
      split at h
      · rename_i s hs
        split at h
        · rename_i y hy
          cases h
          obtain ⟨hp0, hp1⟩ := CD hp
          obtain ⟨hp1, hp2⟩ := CD hp1
          have hI' : GInv ops (σ.app o.dst s.val s.upd).sl (T0.length + 1) := hI.next hl hd ho (λ q hq => H9 hs q hq) _ (oC _ _ _)
          have ih := tD hΓ hl hd l _ y (T0 ++ [(s.touch, s.upd.map (·.1))]) (by
            have := congrArg List.tail hdr
            simpa using this) (by simpa using hI') (by simpa using hy) hp2 hK
          have ht : jH (T0 ++ ((s.touch, s.upd.map (·.1)) :: y.tab)) T0.length = (s.touch, s.upd.map (·.1)) := by simp [jH]
          refine ⟨s.val, s.upd, s.touch, Xa hΓ hs hp1 (zC hI hl ho hp0), Sr hdo, by rw [ht], by rw [ht], ?_⟩
          simpa using ih
        · cases h
      · cases h
    · cases h
theorem ABX {mt : Bool} {ops : Array Oper} {base n : Nat} {T : pE} {K : AState -> Prop} : ∀ (l : List Oper) (k : Nat) (σ : AState), LexT P mt ops base n T K l k σ -> LexE P mt ops base n K l k σ
  | [], _, _, h => h
  | o :: l, k, σ, h => by
    obtain ⟨val, upd, touch, h1, h2, _, _, h5⟩ := h
    exact ⟨val, upd, touch, h1, h2, ABX l (k + 1) _ h5⟩
def dI (P : Program) (Γ : FuncId -> Option Spec) (mt : Bool) (base n : Nat) (ops : Array Oper) (draw : Bool) (σ : AState) (K : AState -> Prop) : Prop :=
  match AAR P Γ mt ops base n ops.toList 0 σ with
  | some x => if L0 ops.toList 0 && Hg ops.toList && (!draw || lexFromT .any ops (jH x.tab) ops.size 0 (Array.replicate ops.size false)) then bJ x.pre (K x.st) else False
  | none => False
theorem pI {Γ : FuncId -> Option Spec} (hΓ : GOk P Γ) (hm : P.follows .mixedOrders = true) {mt : Bool} {base : Nat} {id : Nat} {ops : Array Oper} {draw : Bool} (h : dI P Γ mt base c.n ops draw σ (Q .normal)) : CodeE P c (.region id ops draw) Q σ := by
  unfold dI at h
  split at h
  · rename_i x hx
    split at h
    · rename_i hc
      simp only [Bool.and_eq_true] at hc
      obtain ⟨⟨hl, hd⟩, h1⟩ := hc
      obtain ⟨h2, h3⟩ := OD h
      have hl := tD hΓ (K := Q .normal) hl hd ops.toList σ x [] (by simp) (λ i _ _ _ hi => by simp at hi) (by simpa using hx) h2 h3
      simp only [List.nil_append, List.length_nil] at hl
      cases draw with
      | false => exact ANF (ABX _ _ _ hl)
      | true => exact jU hm (by simpa using h1) hl
    · exact h.elim
  · exact h.elim
structure RunG where
  st : AState
  pre : List Prop
  tab : List (List Nat × List Nat)
  g : Option Bool
def AQP (P : Program) (Γ : FuncId -> Option Spec) (r : Nat) (σ : AState) (as : Bool) (op : Op) : Option Stp := match op with
  | .call ⟨.value f, args, _⟩ => match O4 Γ r (EA (BP σ.sl f)) (args.toList.map λ x => EA (BP σ.sl x)) σ.H with
    | some x => match as with
      | false => some ⟨.opt false x.val, [], [], []⟩
      | true => if Rt σ.H r then some ⟨.opt true x.val, x.upd, x.ids ++ (List.range 16).map (r + ·), x.pre⟩ else none
    | none => none
  | _ => none
def runG (P : Program) (Γ : FuncId -> Option Spec) (md : Nat -> Nat) (as : Bool) (ops : Array Oper) (base n : Nat) : List Oper -> Nat -> AState -> Option RunG
  | [], _, σ => some ⟨σ, [], [], none⟩
  | o :: l, k, σ => if ACC n o then bif Nat.beq (md k) 10 then match o.guard with
      | some (j, want) => match IQ ops σ.sl j want, AQP P Γ (base + 16 * k) σ as o.op with
        | some g, some s => match runG P Γ md as ops base n l (k + 1) (σ.app o.dst s.val s.upd) with
          | some ⟨st, pre, tab, none⟩ => some ⟨st, tagC ops k σ o ++ (s.pre ++ pre), (s.touch, s.upd.map (·.1)) :: tab, some g⟩
          | _ => none
        | _, _ => none
      | none => none
    else match I9 P Γ false ops (base + 16 * k) σ o with
      | some s => match runG P Γ md as ops base n l (k + 1) (σ.app o.dst s.val s.upd) with
        | some x => some ⟨x.st, tagC ops k σ o ++ (s.pre ++ x.pre), (s.touch, s.upd.map (·.1)) :: x.tab, x.g⟩
        | none => none
      | none => none
    else none
theorem AIX {Γ : FuncId -> Option Spec} (hΓ : GOk P Γ) {ops : Array Oper} {r : Nat} {o : Oper} {s : Stp} {as : Bool} {j : Nat} {want : Bool} (hg : o.guard = some (j, want)) (hw : IQ ops σ.sl j want = some as) (h : AQP P Γ r σ as o.op = some s) (hp : EF s.pre) (ht : as = true -> EF (aQ σ.sl o)) : StepO P false ops r σ o s.val s.upd s.touch := by
  have mp : ∀ (l : List Nat), (l.map λ i => (i, σ.H i)).map (·.1) = l := λ l => by
    induction l with
    | nil => rfl
    | cons a l ih => simp only [List.map_cons, ih]
  unfold AQP at h
  split at h
  · rename_i f args ats ho
    split at h
    · rename_i x hx
      split at h
      · cases h; exact .gskip hg hw
      · split at h
        · rename_i hf
          cases h
          obtain ⟨g', first, caps, he, hc⟩ := Tj hΓ hx
          have := StepO.gcallT (mt := false) (ops := ops) (r := r) hg hw ho he (by
            have := ht rfl
            rw [jD (λ _ _ _ h => by cases h) σ.sl o ho _ hg] at this
            rw [ho]; exact this) (hc hp) (Wb _ _) (Iu hf)
          rw [mp] at this; exact this
        · cases h
    · cases h
  · cases h
theorem eH {Γ : FuncId -> Option Spec} (hΓ : GOk P Γ) {md : Nat -> Nat} {as : Bool} {ops : Array Oper} {base n : Nat} {K : AState -> Prop} (hl : L0 ops.toList 0 = true) (hd : Hg ops.toList = true) : ∀ (l : List Oper) (σ : AState) (x : RunG) (T0 : List (List Nat × List Nat)), ops.toList.drop T0.length = l -> GInv ops σ.sl T0.length -> runG P Γ md as ops base n l T0.length σ = some x -> (∀ g, x.g = some g -> g = as) -> EF x.pre -> K x.st ->
    LexT P false ops base n (jH (T0 ++ x.tab)) K l T0.length σ
  | [], σ, x, T0, _, _, h, _, _, hK => by simp only [runG, Option.some.injEq] at h; subst h; exact hK
  | o :: l, σ, x, T0, hdr, hI, h, hga, hp, hK => by
    simp only [runG] at h
    have ho : ops[T0.length]? = some o := by
      have : (ops.toList.drop T0.length)[0]? = some o := by rw [hdr]; rfl
      simpa using this
    split at h
    case isFalse => cases h
    rename_i hdo
    cases hm : Nat.beq (md T0.length) 10 with
    | true =>
      rw [hm] at h
      simp only [cond_true] at h
      split at h
      case h_2 => cases h
      rename_i j want hgd
      split at h
      case h_2 => cases h
      rename_i g s hgA hs
      split at h
      case h_2 => cases h
      rename_i st pre tab hy
      cases h
      obtain rfl : g = as := hga g rfl
      obtain ⟨hp0, hp1⟩ := CD hp
      obtain ⟨hp1, hp2⟩ := CD hp1
      have hv : ∃ v, s.val = .opt g v := by
        unfold AQP at hs
        split at hs
        · split at hs
          · split at hs
            · cases hs; exact ⟨_, rfl⟩
            · split at hs
              · cases hs; exact ⟨_, rfl⟩
              · cases hs
          · cases hs
        · cases hs
      obtain ⟨v, hv⟩ := hv
      have hI' : GInv ops (σ.app o.dst s.val s.upd).sl (T0.length + 1) := hI.next hl hd ho (λ q hq => ⟨g, v, hv, by rw [hgd] at hq; cases hq; exact hgA⟩) _ (oC _ _ _)
      have ih := eH hΓ hl hd l _ ⟨st, pre, tab, none⟩ (T0 ++ [(s.touch, s.upd.map (·.1))]) (by
        have := congrArg List.tail hdr
        simpa using this) (by simpa using hI') (by simpa using hy) (λ _ h => by cases h) hp2 hK
      have ht : jH (T0 ++ ((s.touch, s.upd.map (·.1)) :: tab)) T0.length = (s.touch, s.upd.map (·.1)) := by simp [jH]
      refine ⟨s.val, s.upd, s.touch, AIX hΓ hgd hgA hs hp1 (λ hgt => zC hI hl ho hp0 λ q hq => by rw [hgd] at hq; cases hq; rw [hgA, hgt]), Sr hdo, by rw [ht], by rw [ht], ?_⟩
      simpa using ih
    | false =>
      rw [hm] at h
      simp only [cond_false] at h
      split at h
      case h_2 => cases h
      rename_i s hs
      split at h
      case h_2 => cases h
      rename_i y hy
      cases h
      obtain ⟨hp0, hp1⟩ := CD hp
      obtain ⟨hp1, hp2⟩ := CD hp1
      have hI' : GInv ops (σ.app o.dst s.val s.upd).sl (T0.length + 1) := hI.next hl hd ho (λ q hq => H9 hs q hq) _ (oC _ _ _)
      have ih := eH hΓ hl hd l _ y (T0 ++ [(s.touch, s.upd.map (·.1))]) (by
        have := congrArg List.tail hdr
        simpa using this) (by simpa using hI') (by simpa using hy) hga hp2 hK
      have ht : jH (T0 ++ ((s.touch, s.upd.map (·.1)) :: y.tab)) T0.length = (s.touch, s.upd.map (·.1)) := by simp [jH]
      refine ⟨s.val, s.upd, s.touch, Xa hΓ hs hp1 (zC hI hl ho hp0), Sr hdo, by rw [ht], by rw [ht], ?_⟩
      simpa using ih
def AGO (P : Program) (Γ : FuncId -> Option Spec) (md : Nat -> Nat) (base n : Nat) (ops : Array Oper) (σ : AState) (K : AState -> Prop) : Prop :=
  match runG P Γ md true ops base n ops.toList 0 σ, runG P Γ md false ops base n ops.toList 0 σ with
  | some ⟨s1, p1, t1, some g1⟩, some ⟨s0, p0, t0, some g0⟩ => if L0 ops.toList 0 && Hg ops.toList && lexFromT .any ops (jH t1) ops.size 0 (Array.replicate ops.size false) && lexFromT .any ops (jH t0) ops.size 0 (Array.replicate ops.size false) then bJ [g0 = g1] (bif g1 then bJ p1 (K s1) else bJ p0 (K s0)) else False
  | _, _ => False
theorem ABG {Γ : FuncId -> Option Spec} (hΓ : GOk P Γ) (hm : P.follows .mixedOrders = true) {md : Nat -> Nat} {base : Nat} {id : Nat} {ops : Array Oper} (h : AGO P Γ md base c.n ops σ (Q .normal)) : CodeE P c (.region id ops true) Q σ := by
  unfold AGO at h
  split at h
  case h_2 => exact h.elim
  rename_i s1 p1 t1 g1 s0 p0 t0 g0 h1 h0
  split at h
  case isFalse => exact h.elim
  rename_i hc
  simp only [Bool.and_eq_true] at hc
  obtain ⟨⟨⟨hl, hd⟩, l1⟩, l0⟩ := hc
  obtain ⟨hgg, h⟩ := OD h
  obtain rfl : g0 = g1 := hgg
  cases g0 with
  | true =>
    obtain ⟨h2, h3⟩ := OD (show bJ p1 (Q .normal s1) from h)
    have hx := eH hΓ (K := Q .normal) hl hd ops.toList σ _ [] (by simp) (λ i _ _ _ hi => by simp at hi) (by simpa using h1) (λ g hg => by cases hg; rfl) h2 h3
    simp only [List.nil_append, List.length_nil] at hx
    exact jU hm (by simpa using l1) hx
  | false =>
    obtain ⟨h2, h3⟩ := OD (show bJ p0 (Q .normal s0) from h)
    have hx := eH hΓ (K := Q .normal) hl hd ops.toList σ _ [] (by simp) (λ i _ _ _ hi => by simp at hi) (by simpa using h0) (λ g hg => by cases hg; rfl) h2 h3
    simp only [List.nil_append, List.length_nil] at hx
    exact jU hm (by simpa using l0) hx
end Go.Sym

namespace Go.Sym
variable {P : Program} {B B' : Fg} {ι ι' : Nat -> Pl} {H H' : Heap} {D D' : Nat -> Prop} {w w' : World} {c : Ctx} {σ : AState} {Q : Exit -> AState -> Prop}
structure Shape where
  α : Type
  dflt : α
  T : α -> ST
  inv : α -> Prop
  meas : α -> Nat
  first : List (Nat × Nat) := []
  again : List (Nat × Nat) := []
  ffz : List Nat := []
  afz : List Nat := []
  /-- what the annotations within are told, behind the measure -/
  tag : List Nat := []
def Shape.at1 (s : Shape) : List (Nat × Nat) × List Nat := (s.first, s.ffz)
def Shape.at2 (s : Shape) : List (Nat × Nat) × List Nat := (s.again, s.afz)
abbrev lM := List Shape
def iK (E : List Nat) (sel : Shape -> List (Nat × Nat) × List Nat) (σ : AState) (K : (s : Shape) -> s.α -> Prop) : List Shape -> Prop
  | [] => False
  | s :: l => if (Jc E (sel s).2 (sel s).1 (s.T s.dflt) σ).isSome then ∃ a, AQW (Jc E (sel s).2 (sel s).1 (s.T a) σ) (K s a) else iK E sel σ K l
theorem Gy {E : List Nat} {sel : Shape -> List (Nat × Nat) × List Nat} {K : (s : Shape) -> s.α -> Prop} : ∀ {l : List Shape}, iK E sel σ K l -> ∃ s ∈ l, ∃ a, IM (Jc E (sel s).2 (sel s).1 (s.T a) σ) /\ K s a
  | [], h => h.elim
  | s :: l, h => by
    unfold iK at h
    split at h
    · obtain ⟨a, h⟩ := h
      obtain ⟨h1, h2⟩ := qW h
      exact ⟨s, by simp, a, h1, h2⟩
    · obtain ⟨s', h1, h2⟩ := Gy h
      exact ⟨s', by simp [h1], h2⟩
def allS (K : Shape -> Prop) : List Shape -> Prop
  | [] => True
  | [s] => K s
  | s :: l => K s /\ allS K l
theorem nD {K : Shape -> Prop} : ∀ {l : List Shape}, allS K l -> ∀ s ∈ l, K s
  | [], _, s, h => by cases h
  | [t], h, s, hs => by simp at hs; subst hs; exact h
  | t :: u :: l, h, s, hs => by
    rcases List.mem_cons.1 hs with rfl | hs
    · exact h.1
    · exact nD (l := u :: l) h.2 s hs
def pK : Code -> Nat
  | .region id _ _ => id
  | .seq a _ => pK a
  | .block _ b => pK b
  | .cond _ t _ => pK t
  | .loop b => pK b
  | .scope b => pK b
  | .rangeFunc _ _ a _ => pK a
  | _ => 0
def AQQ (Q : Exit -> AState -> Prop) : Exit -> AState -> Prop
  | .goto _, _ => False
  | e, σ => Q e σ
mutual
def frV (F : nK) : AVal -> AVal
  | .own id k i n => match F id with
    | some (k2, _, get) => if Nat.beq k k2 then .d (.list k n (λ j => get (i + j)) false) else .any
    | none => .own id k i n
  | .agg cs => AAW (frL F cs)
  | .tup cs => ABO (frL F cs)
  | .fn f a b => .fn f (frL F a) (frL F b)
  | .opt g a => .opt g (frV F a)
  | a => a
def frL (F : nK) : List AVal -> List AVal
  | [] => []
  | a :: r => frV F a :: frL F r
end
mutual
def frC (F : nK) : AVal -> List Prop
  | .own id _ i n => match F id with
    | some (_, m, _) => [i + n <= m]
    | none => []
  | .agg cs => V4 F cs
  | .tup cs => V4 F cs
  | .fn _ a b => V4 F a ++ V4 F b
  | .opt _ a => frC F a
  | _ => []
def V4 (F : nK) : List AVal -> List Prop
  | [] => []
  | a :: r => frC F a ++ V4 F r
end
theorem Ny (F : nK) : ∀ l : List AVal, (frL F l).length = l.length
  | [] => rfl
  | a :: l => by simp [frL, Ny F l]
theorem AUM (x : Value) : vEq x x := by
  unfold vEq; split <;> simp_all
mutual
theorem Lp : ∀ (x : DVal), JY x x
  | .v x => by simp only [JY]; exact AUM x
  | .agg xs => by simp only [JY]; exact qC xs
  | .tup xs => by simp only [JY]; exact qC xs
  | .list k n g e => by simp only [JY]; exact ⟨.inl trivial, trivial, id, λ i _ => Lp (g i)⟩
  | .arr k n g => by simp only [JY]; exact ⟨trivial, trivial, λ i _ => Lp (g i)⟩
  | .eref x c => by simp only [JY]; exact ⟨trivial, Lp x⟩
  | .iface t x => by simp only [JY]; exact ⟨trivial, Lp x⟩
  | .anyB => by simp only [JY]
theorem qC : ∀ (l : List DVal), Hd l l
  | [] => trivial
  | x :: l => ⟨Lp x, qC l⟩
end
mutual
theorem D5 {F : nK} (hF : lF B B' ι F) : ∀ (a : AVal) (v : Value), EF (frC F a) -> VRel B ι D a v -> VRel B' ι D (frV F a) v
  | .own id k i n, v, h, hv => by
    simp only [frC] at h
    simp only [frV]
    split
    · rename_i k2 m get hf
      simp only [hf] at h
      split
      · rename_i hk
        have := Nat.eq_of_beq_eq_true hk; subst this
        exact .d (Q0 hF hf rfl h (λ j _ => Lp _) hv)
      · exact .any
    · exact hv.mono hF.1 λ i hi => ⟨hi, rfl⟩
  | .agg cs, v, h, hv => by
    simp only [frV]
    cases hv with
    | agg hl hr => exact lZ (by rw [Ny]; exact hl) (Ct hF cs _ h hr)
  | .tup cs, v, h, hv => by
    simp only [frV]
    cases hv with
    | tup hl hr => exact ABW (by rw [Ny]; exact hl) (Ct hF cs _ h hr)
  | .fn f a b, v, h, hv => by
    simp only [frV]
    simp only [frC] at h
    obtain ⟨h1, h2⟩ := CD h
    cases hv with
    | fn h3 h4 h5 h6 => exact .fn (by rw [Ny]; exact h3) (by rw [Ny]; exact h4) (Ct hF a _ h1 h5) (Ct hF b _ h2 h6)
  | .opt g a, v, h, hv => by
    simp only [frV]
    cases hv with
    | opt h1 h2 => exact .opt (λ hg => D5 hF a v h (h1 hg)) h2
  | .d x, v, _, hv => by simp only [frV]; exact hv.mono hF.1 λ i hi => ⟨hi, rfl⟩
  | .bptr i c, v, _, hv => by simp only [frV]; exact hv.mono hF.1 λ i hi => ⟨hi, rfl⟩
  | .rptr i k e c, v, _, hv => by simp only [frV]; exact hv.mono hF.1 λ i hi => ⟨hi, rfl⟩
  | .mref i, v, _, hv => by simp only [frV]; exact hv.mono hF.1 λ i hi => ⟨hi, rfl⟩
  | .any, v, _, _ => by simp only [frV]; exact .any
theorem Ct {F : nK} (hF : lF B B' ι F) : ∀ (l : List AVal) (ys : Array Value), EF (V4 F l) -> (∀ (j : Nat) (x : AVal) (y : Value), l[j]? = some x -> ys[j]? = some y -> VRel B ι D x y) ->
    ∀ (j : Nat) (x : AVal) (y : Value), (frL F l)[j]? = some x -> ys[j]? = some y -> VRel B' ι D x y
  | [], ys, _, _, j, x, y, hx, _ => by simp [frL] at hx
  | a :: l, ys, h, hr, j, x, y, hx, hy => by
    obtain ⟨h1, h2⟩ := CD (by simpa only [V4] using h)
    cases j with
    | zero =>
      simp only [frL, List.getElem?_cons_zero, Option.some.injEq] at hx
      subst hx
      exact D5 hF a y h1 (hr 0 a y rfl hy)
    | succ j =>
      simp only [frL, List.getElem?_cons_succ] at hx
      exact Ct hF l (ys.extract 1 ys.size) h2 (λ i x y hx hy => hr (i + 1) x y (by simpa using hx) (by
        rw [Array.getElem?_extract] at hy
        split at hy
        · rw [Nat.add_comm]; exact hy
        · cases hy)) j x y hx (by
        have hlt := (Array.getElem?_eq_some_iff.1 hy).1
        rw [Array.getElem?_extract, if_pos (by omega), Nat.add_comm]; exact hy)
end
mutual
theorem VRel.keep {p : Nat -> Bool} (hp : ∀ i, p i = true -> D' i /\ ι' i = ι i) : ∀ (a : AVal) (v : Value), Ok p a = true -> VRel B ι D a v -> VRel B ι' D' a v
  | .d x, v, _, hv => .d hv.d_inv
  | .agg cs, v, h, hv => by
    cases hv with
    | agg hl hr => exact .agg hl λ j x y hx hy => VRel.keepL hp cs (by simpa only [Ok] using h) j x y hx (hr j x y hx hy)
  | .tup cs, v, h, hv => by
    cases hv with
    | tup hl hr => exact .tup hl λ j x y hx hy => VRel.keepL hp cs (by simpa only [Ok] using h) j x y hx (hr j x y hx hy)
  | .bptr i c, v, h, hv => by cases hv; rw [<- (hp i (by simpa only [Ok] using h)).2]; exact .bptr (hp i (by simpa only [Ok] using h)).1
  | .rptr i k e c, v, h, hv => by cases hv; rw [<- (hp i (by simpa only [Ok] using h)).2]; exact .rptr (hp i (by simpa only [Ok] using h)).1
  | .own i k e n, v, h, hv => by
    cases hv with
    | own _ h1 h2 => rw [<- (hp i (by simpa only [Ok] using h)).2] at h2 ⊢; exact .own (hp i (by simpa only [Ok] using h)).1 h1 h2
  | .fn f a b, v, h, hv => by
    simp only [Ok, Bool.and_eq_true] at h
    cases hv with
    | fn h1 h2 h3 h4 => exact .fn h1 h2 (λ j x y hx hy => VRel.keepL hp a h.1 j x y hx (h3 j x y hx hy)) λ j x y hx hy => VRel.keepL hp b h.2 j x y hx (h4 j x y hx hy)
  | .mref i, v, h, hv => by cases hv; rw [<- (hp i (by simpa only [Ok] using h)).2]; exact .mref (hp i (by simpa only [Ok] using h)).1
  | .any, v, _, _ => .any
  | .opt g a, v, h, hv => by
    cases hv with
    | opt h1 h2 => exact .opt (λ hg => VRel.keep hp a v (by simpa only [Ok] using h) (h1 hg)) h2
theorem VRel.keepL {p : Nat -> Bool} (hp : ∀ i, p i = true -> D' i /\ ι' i = ι i) : ∀ (l : List AVal), okL p l = true -> ∀ (j : Nat) (x : AVal) (v : Value), l[j]? = some x -> VRel B ι D x v -> VRel B ι' D' x v
  | [], _, j, x, v, hx, _ => by simp at hx
  | a :: l, h, 0, x, v, hx, hv => by simp at hx; subst hx; simp only [okL, Bool.and_eq_true] at h; exact VRel.keep hp a v h.1 hv
  | a :: l, h, j + 1, x, v, hx, hv => by simp only [okL, Bool.and_eq_true] at h; exact VRel.keepL hp l h.2 j x v (by simpa using hx) hv
end
structure Pack where
  sl : List Nat
  ids : List Nat
  fz : List Nat := []
def Py (F : nK) : HCell -> HCell
  | .live (.box es) => .live (.box (frL F es))
  | .live (.abox es m g) => .live (.abox (frL F es) m g)
  | x => x
def BDZ (F : nK) : HCell -> List Prop
  | .live (.box es) => V4 F es
  | .live (.abox es _ _) => V4 F es
  | _ => []
def X0 (p : Nat -> Bool) : HCell -> Bool
  | .live o => okO p o
  | .dead => true
  | .none => false
def Ai (p : Pack) (σ : AState) : ST :=
  ⟨p.sl.map λ t => (t, frV (SY σ.H p.fz) (σ.sl t)), p.ids.map λ i => (i, Py (SY σ.H p.fz) (HN σ.H p.fz i))⟩
def APT (p : Pack) (σ : AState) : List Prop := (p.sl.flatMap λ t => frC (SY σ.H p.fz) (σ.sl t)) ++ p.ids.flatMap λ i => BDZ (SY σ.H p.fz) (HN σ.H p.fz i)
def Z9 (p : Pack) (E : List Nat) (s : ST) : Bool :=
  s.sl.all (λ x => Ok (λ i => p.ids.contains i) x.2) && s.H.all (λ x => X0 (λ i => p.ids.contains i) x.2) && E.all (λ i => p.ids.contains i) && nodup p.ids
def oW (o : Option Pack) (E : List Nat) (σ : AState) (K : AState -> Prop) : Prop := match o with
  | none => K σ
  | some p => if Z9 p E (Ai p σ) then bJ (APT p σ) (K (Ai p σ).st) else False
theorem Ru {α : Type} {f : α -> List Prop} : ∀ {l : List α}, EF (l.flatMap f) -> ∀ x ∈ l, EF (f x)
  | [], _, x, hx => by cases hx
  | a :: l, h, x, hx => by
    rw [List.flatMap_cons] at h
    obtain ⟨h1, h2⟩ := CD h
    rcases List.mem_cons.1 hx with rfl | hx
    · exact h1
    · exact Ru h2 x hx
theorem jS (f : Nat -> AVal) : ∀ (l : List Nat) (t : Nat), OG (l.map λ t => (t, f t)) t = .any ∨ (t ∈ l /\ OG (l.map λ t => (t, f t)) t = f t)
  | [], t => .inl rfl
  | a :: l, t => by
    simp only [List.map_cons, OG]
    split
    · rename_i h; subst h; exact .inr ⟨by simp, rfl⟩
    · rcases jS f l t with h | ⟨h1, h2⟩
      · exact .inl h
      · exact .inr ⟨by simp [h1], h2⟩
theorem AIY (f : Nat -> HCell) : ∀ (l : List Nat) (i : Nat), Cx (l.map λ i => (i, f i)) i = if l.contains i then some (f i) else none
  | [], i => rfl
  | a :: l, i => by
    simp only [List.map_cons, Cx, AIY f l, List.contains_cons]
    by_cases h : i = a
    · subst h; simp
    · have : (i == a) = false := by simpa using h
      rw [if_neg h, this]; simp
theorem Moved.pack {B0 : Fg} {ι0 : Nat -> Pl} {H0 : Heap} {w0 : World} {p : Pack} {E : List Nat} (hE : ∀ i, H0.dom i -> i ∈ E) (hok : Z9 p E (Ai p σ) = true) (hc : EF (APT p σ)) (hm0 : Moved B0 ι0 H0 w0 B ι σ.H w) :
    ∃ B', Moved B0 ι0 H0 w0 B' ι (Ai p σ).st.H w /\ (∀ t v, VRel B ι σ.H.dom (σ.sl t) v -> VRel B' ι (Ai p σ).st.H.dom ((Ai p σ).st.sl t) v) /\ (∀ i o, (Ai p σ).st.H i = .live o -> ∃ o', σ.H i = .live o') /\
      (∀ b c, B b = some c -> B' b = some c) /\ ∀ i ∈ E, (Ai p σ).st.H.dom i := by
  simp only [Z9, Bool.and_eq_true, List.all_eq_true] at hok
  obtain ⟨⟨⟨o1, o2⟩, o3⟩, o4⟩ := hok
  obtain ⟨c1, c2⟩ := CD hc
  obtain ⟨B', hk, hF⟩ := XO p.fz hm0.heap
  have hm := hm0.trans hk
  have hcell : ∀ i ∈ p.ids, X0 (λ i => p.ids.contains i) (Py (SY σ.H p.fz) (HN σ.H p.fz i)) = true := λ i hi => o2 _ (List.mem_map.2 ⟨i, hi, rfl⟩)
  have hH : ∀ i, (Ai p σ).st.H i = if p.ids.contains i then Py (SY σ.H p.fz) (HN σ.H p.fz i) else .none := λ i => by
    show (Cx _ i).getD .none = _
    rw [Ai, AIY]; split <;> rfl
  have hdom : ∀ i, p.ids.contains i = true -> (Ai p σ).st.H.dom i /\ ι i = ι i := λ i hi => by
    refine ⟨?_, rfl⟩
    unfold Heap.dom
    rw [hH, if_pos hi]
    have := hcell i (by simpa using hi)
    intro he; rw [he] at this; cases this
  have live : ∀ i o, (Ai p σ).st.H i = .live o -> ∃ o', i ∈ p.ids /\ HN σ.H p.fz i = .live o' /\ Py (SY σ.H p.fz) (.live o') = .live o := λ i o hi => by
    rw [hH] at hi
    split at hi
    · rename_i hc
      cases hq : HN σ.H p.fz i with
      | live o' => rw [hq] at hi; exact ⟨o', by simpa using hc, rfl, hi⟩
      | none => rw [hq] at hi; cases hi
      | dead => rw [hq] at hi; cases hi
    · cases hi
  refine ⟨B', ?_, λ t v hv => ?_, λ i o hi => by obtain ⟨o', _, ho, _⟩ := live i o hi; exact ⟨o', Nj p.fz ho⟩, hF.1, λ i hi => (hdom i (o3 i hi)).1⟩
  · refine ⟨hm.bm, hm.bn, λ i hi => ?_, ⟨λ i o hi => ?_, λ i j o o' hi hj hij => ?_, λ i o hi => ?_, hm.heap.imm⟩, λ i o hi => ?_, hm.frame, hm.size, hm.calm⟩
    · exact ⟨(hdom i (o3 i (hE i hi))).1, (hm.im i hi).2⟩
    · obtain ⟨o', hid, ho, he⟩ := live i o hi
      have h1 := hm0.heap.obj _ _ (Nj p.fz ho)
      generalize w.heap[(ι i).b]? = q at h1 ⊢
      have hok := hcell i hid
      rw [ho] at hok
      cases o' with
      | box es =>
        simp only [Py, HCell.live.injEq] at he
        subst he
        have h2 := Ru c2 i hid
        rw [ho] at h2
        cases h1 with
        | box hsz hr =>
          refine .box (by rw [Ny]; exact hsz) λ j x z hx hz => ?_
          exact VRel.keepL hdom _ (by simpa only [X0, Py, okO] using hok) j x z hx (Ct hF es _ h2 hr j x z hx hz)
      | row k n g =>
        simp only [Py, HCell.live.injEq] at he
        subst he
        cases h1 with
        | row a b cc d => exact .row a b cc λ i j x y hi hx hy => (d i j x y hi hx hy).mono hF.1
      | imap q z hs g st pend =>
        simp only [Py, HCell.live.injEq] at he
        subst he
        cases h1 with
        | imap a => exact .imap (a.mono hF.1)
      | abox es m g =>
        simp only [Py, HCell.live.injEq] at he
        subst he
        have h2 := Ru c2 i hid
        rw [ho] at h2
        cases h1 with
        | abox hsz hr hb =>
          refine .abox (by rw [Ny]; exact hsz) (λ j x z hx hz => ?_) (by rw [Ny]; exact hb)
          exact VRel.keepL hdom _ (by simpa only [X0, Py, okO] using hok) j x z hx (Ct hF es _ h2 hr j x z hx hz)
      | miter m a b c d =>
        simp only [Py, HCell.live.injEq] at he
        subst he
        cases h1 with
        | miter hD h1 h2 h3 h4 h5 => exact .miter (hdom m (by simpa only [X0, Py, okO] using hok)).1 h1 h2 h3 h4 h5
    · obtain ⟨_, _, h1, _⟩ := live i o hi
      obtain ⟨_, _, h2, _⟩ := live j o' hj
      exact hm.heap.inj _ _ _ _ h1 h2 hij
    · obtain ⟨_, _, h1, _⟩ := live i o hi
      exact hm.heap.sep _ _ h1
    · obtain ⟨_, _, h1, _⟩ := live i o hi
      exact hm.own _ _ h1
  · rcases jS (λ t => frV (SY σ.H p.fz) (σ.sl t)) p.sl t with h | ⟨h1, h2⟩
    · show VRel _ _ _ (OG _ t) _
      rw [Ai, h]; exact .any
    · show VRel _ _ _ (OG _ t) _
      rw [Ai, h2]
      exact VRel.keep hdom _ _ (o1 _ (List.mem_map.2 ⟨t, h1, rfl⟩)) (D5 hF _ _ (Ru c1 t h1) hv)
theorem Rel.pack {p : Pack} {E : List Nat} {a : Act} (hE : ∀ i, c.H0.dom i -> i ∈ E) (hok : Z9 p E (Ai p σ) = true) (hc : EF (APT p σ)) (hR : Rel c B ι σ a w) : ∃ B', Rel c B' ι (Ai p σ).st a w := by
  obtain ⟨B', h1, h2, h3, _⟩ := Moved.pack hE hok hc hR.mv
  obtain ⟨Ds, d1, d0, d2, d3⟩ := hR.defers
  refine ⟨B', λ t => h2 t _ (hR.slots t), hR.size, ⟨Ds, d1, d0, d2, λ D hD => ⟨(d3 D hD).1, (d3 D hD).2.here, λ i o hi => ?_⟩⟩, h1⟩
  obtain ⟨o', ho⟩ := h3 i o hi
  exact (d3 D hD).2.sep _ _ ho
theorem CodeE.noGoto {x : Code} (h : CodeE P c x (AQQ Q) σ) : CodeE P c (.scope x) Q σ := by
  intro B ι a w hR
  refine oK (Code.wpIn_mono (λ e a w hq => ?_) (h B ι a w hR))
  obtain ⟨B', ι', σ', hq, hR'⟩ := hq
  cases e with
  | goto l => exact hq.elim
  | _ => exact ⟨B', ι', σ', hq, hR'⟩
theorem ATK {l : List Prop} {K K' : Prop} (hK : K -> K') (h : bJ l K) : bJ l K' := by
  cases l with
  | nil => exact hK h
  | cons => exact ⟨h.1, hK h.2⟩
theorem uY {Γ : FuncId -> Option Spec} {mt : Bool} {base n : Nat} {ops : Array Oper} {draw : Bool} {K K' : AState -> Prop} (hK : ∀ σ, K σ -> K' σ) (h : dI P Γ mt base n ops draw σ K) : dI P Γ mt base n ops draw σ K' := by
  unfold dI at *
  split at h
  · split at h
    · rename_i hc; rw [if_pos hc]; exact ATK (hK _) h
    · exact h.elim
  · exact h
end Go.Sym
