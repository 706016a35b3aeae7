/- A list of operations, reckoned. -/
import Derived.Test.YtdbjalgfomknhaaGreatSym8
set_option linter.unusedVariables false
set_option linter.unusedSimpArgs false
namespace Go.Sym
variable {P : Program} {B B' : Gu} {ι ι' : Nat -> Pl} {H H' : Heap} {D : Nat -> Prop} {w w' : World} {c : Ctx} {σ : AState} {Q : Exit -> AState -> Prop}
structure CallR where
  ids : List Nat
  val : AVal
  upd : List (Nat × HCell)
  pre : List Prop
abbrev Spec := List AVal -> Heap -> Nat -> Option CallR
def AK (P : Program) (g : FuncId) (s : Spec) : Prop := ∀ as H r x, s as H r = some x -> EM x.pre -> AKC P g as r (x.ids.map λ i => (i, H i)) x.val x.upd
def isNone : HCell -> Bool
  | .none => true
  | _ => false
theorem Tj {c : HCell} (h : isNone c = true) : c = .none := by cases c <;> first | rfl | cases h
def Ta (H : Heap) (r : Nat) : Bool := (List.range 16).all λ i => isNone (H (r + i))
theorem Ix {r : Nat} (h : Ta H r = true) : ∀ i, r <= i -> i < r + 16 -> H i = .none := λ i h1 h2 => by
  simp only [Ta, List.all_eq_true, List.mem_range] at h
  have := Tj (h (i - r) (by omega))
  rwa [show r + (i - r) = i by omega] at this
def AKO (n : Nat) (o : Oper) : Bool := match o.dst with
  | some d => Nat.blt d n
  | none => true
theorem Wj {n : Nat} {o : Oper} (h : AKO n o = true) : ∀ d, o.dst = some d -> d < n := by
  intro d hd
  simpa [AKO, hd] using h
structure Stp where
  val : AVal
  upd : List (Nat × HCell)
  touch : List Nat
  pre : List Prop
def AFW (Γ : FuncId -> Option Spec) (r : Nat) (f : AVal) (args : List AVal) (H : Heap) : Option CallR := match f with
  | .fn (.func g) first caps => match Γ g with
    | some s => s (first ++ args ++ caps) H r
    | none => none
  | _ => none
def gopB (P : Program) (r : Nat) (ρ : Operand -> AVal) (H : Heap) (g : Bool) (op : Op) : Option (AVal × List Prop) := match op with
  | .pick c a b => match EJ (ρ c) with
    | .d (.v (.bool t)) => some (AHY t (EJ (ρ a)) (EJ (ρ b)), [])
    | _ => none
  | .buildSlice t len ps => match XI P r t len (ps.toList.map λ p => (p.1, EJ (ρ p.2))) with
    | some ⟨_, [(_, .live (.row k n get))], _⟩ => some (.d (.list k n get true), [])
    | _ => none
  | .makeSlice t l c => match Fy P r t (EJ (ρ l)) (EJ (ρ c)) with
    | some ⟨_, [(_, .live (.row k n get))], p⟩ => some (.d (.list k n get true), Yi g p)
    | _ => none
  | op => match opA P false r (λ x => EJ (ρ x)) H op with
    | some ⟨v, [], p⟩ => some (v, Yi g p)
    | _ => none
def BSV (P : Program) (Γ : FuncId -> Option Spec) (mt : Bool) (r : Nat) (σ : AState) : Op -> Option Stp
  | .call ⟨.value f, args, _⟩ => match AFW Γ r (BU σ.sl f) (args.toList.map (BU σ.sl)) σ.H with
    | some x => if Ta σ.H r then some ⟨x.val, x.upd, x.ids ++ (List.range 16).map (r + ·), x.pre⟩ else none
    | none => none
  | .call ⟨.invoke x m, args, _⟩ => match BU σ.sl x with
    | .d (.iface t d) => match AAO P t m with
      | some g => match AFW Γ r (.fn (.func g) [.d d] []) (args.toList.map (BU σ.sl)) σ.H with
        | some x => if Ta σ.H r then some ⟨x.val, x.upd, x.ids ++ (List.range 16).map (r + ·), x.pre⟩ else none
        | none => none
      | none => none
    | _ => none
  | .pick c a b => match BU σ.sl c with
    | .d (.v (.bool t)) => if isNone (σ.H r) then some ⟨AHY t (EJ (BU σ.sl a)) (EJ (BU σ.sl b)), [], r :: Uf (BU σ.sl) (.pick c a b), []⟩ else none
    | _ => none
  | op => match opA P mt r (BU σ.sl) σ.H op with
    | some e => if isNone (σ.H r) then some ⟨e.val, e.upd, r :: Uf (BU σ.sl) op, e.pre⟩ else none
    | none => none
def stepG (P : Program) (Γ : FuncId -> Option Spec) (r : Nat) (σ : AState) (g : Bool) : Op -> Option (AVal × List Nat × List Prop)
  | .call ⟨.value f, args, _⟩ => match AFW Γ r (EJ (BU σ.sl f)) (args.toList.map λ x => EJ (BU σ.sl x)) σ.H with
    | some ⟨ids, v, [], p⟩ => if Ta σ.H r then some (v, ids ++ (List.range 16).map (r + ·), Yi g p) else none
    | _ => none
  | op => match gopB P r (BU σ.sl) σ.H g op with
    | some (v, p) => if isNone (σ.H r) then some (v, r :: Uf (λ x => EJ (BU σ.sl x)) op, p) else none
    | none => none
def V3 (P : Program) (Γ : FuncId -> Option Spec) (mt : Bool) (ops : Array Oper) (r : Nat) (σ : AState) (o : Oper) : Option Stp := match o.guard with
  | none => BSV P Γ mt r σ o.op
  | some (j, want) => match JI ops σ.sl j want with
    | some g => match stepG P Γ r σ g o.op with
      | some (v, touch, p) => some ⟨.opt g v, [], touch, p⟩
      | none => none
    | none => none
theorem Yc {g : Bool} {l : List Prop} (h : g = true -> EM l) : EM (Yi g l) := by
  cases l with
  | nil => trivial
  | cons => exact h
theorem mI {op : Op} (h : ∀ c a b, op = .pick c a b -> False) (sl : Nat -> AVal) (o : Oper) (ho : o.op = op) (q : Nat × Bool) (hq : o.guard = some q) : bZ sl o = Cj (BU sl) op.operands.toList := by
  unfold bZ
  rw [ho, hq]
  cases op <;> first | rfl | exact (h _ _ _ rfl).elim
def GOk (P : Program) (Γ : FuncId -> Option Spec) : Prop := ∀ g s, Γ g = some s -> AK P g s
theorem Xc {Γ : FuncId -> Option Spec} (hΓ : GOk P Γ) {r : Nat} {f : AVal} {args : List AVal} {x : CallR} (h : AFW Γ r f args H = some x) : ∃ g first caps, f = .fn (.func g) first caps /\ (EM x.pre -> AKC P g (first ++ args ++ caps) r (x.ids.map λ i => (i, H i)) x.val x.upd) := by
  unfold AFW at h
  split at h
  · rename_i g first caps
    split at h
    · rename_i s hs
      exact ⟨g, first, caps, rfl, hΓ g s hs _ _ _ _ h⟩
    · cases h
  · cases h
theorem Uj (l : List Nat) (H : Heap) : ∀ p ∈ l.map (λ i => (i, H i)), H p.1 = p.2 := λ p hp => by
  obtain ⟨i, _, rfl⟩ := List.mem_map.1 hp; rfl
theorem BCD {r : Nat} {sl : Nat -> AVal} {g : Bool} {o : Oper} {q : Nat × Bool} {v : AVal} {p : List Prop} (h : gopB P r (BU sl) H g o.op = some (v, p)) (hq : o.guard = some q) (hp : EM p) (ht : g = true -> EM (bZ sl o)) : ∃ p', gopA P r (BU sl) H g o.op = some (v, p') /\ EM p' := by
  unfold gopB at h
  split at h
  · rename_i c a b ho
    split at h
    · rename_i t hc
      cases h
      refine ⟨Yi g (Nf True (BU sl c) ++ (Nf (t = true) (BU sl a) ++ Nf (t = false) (BU sl b))), by rw [ho]; simp only [gopA, hc], Yc λ hg => ?_⟩
      have := ht hg
      unfold bZ at this
      rw [ho, hq] at this
      simp only [hc] at this
      exact this
    · cases h
  · rename_i t len ps ho
    split at h
    · rename_i hb
      cases h
      refine ⟨Yi g (Cj (BU sl) (Op.buildSlice t len ps).operands.toList), by rw [ho]; simp only [gopA, hb], Yc λ hg => ?_⟩
      have := ht hg
      rw [mI (λ _ _ _ h => by cases h) sl o ho _ hq] at this
      exact this
    · cases h
  · rename_i t l c ho
    split at h
    · rename_i v0 r0 k n get p0 hb
      cases h
      refine ⟨Yi g (Nf True (BU sl l) ++ (Nf True (BU sl c) ++ p0)), by rw [ho]; simp only [gopA, hb], Yc λ hg => ?_⟩
      have := ht hg
      rw [mI (λ _ _ _ h => by cases h) sl o ho _ hq] at this
      exact TY.2 ⟨Ml this l (by simp [Op.operands]), TY.2 ⟨Ml this c (by simp [Op.operands]), Ce hp hg⟩⟩
    · cases h
  · rename_i h1 h2 h3
    split at h
    · rename_i e1 e2 ho
      cases h
      refine ⟨Yi g (Cj (BU sl) o.op.operands.toList ++ e2), ?_, Yc λ hg => ?_⟩
      · unfold gopA
        split
        · rename_i c a b hop; exact (h1 c a b hop).elim
        · rename_i t len ps hop; exact (h2 t len ps hop).elim
        · rename_i t l c hop; exact (h3 t l c hop).elim
        · rw [ho]
      · have := ht hg
        rw [mI (λ c a b h => h1 c a b h) sl o rfl _ hq] at this
        exact TY.2 ⟨this, Ce hp hg⟩
    · cases h
theorem V7 {Γ : FuncId -> Option Spec} {mt : Bool} {ops : Array Oper} {r : Nat} {o : Oper} {s : Stp} (h : V3 P Γ mt ops r σ o = some s) (q : Nat × Bool) (hq : o.guard = some q) : ∃ g v, s.val = .opt g v /\ JI ops σ.sl q.1 q.2 = some g := by
  unfold V3 at h
  rw [hq] at h
  simp only at h
  split at h
  · rename_i g hg
    split at h
    · cases h; exact ⟨g, _, rfl, hg⟩
    · cases h
  · cases h
theorem Yp {Γ : FuncId -> Option Spec} (hΓ : GOk P Γ) {mt : Bool} {ops : Array Oper} {r : Nat} {o : Oper} {s : Stp} (h : V3 P Γ mt ops r σ o = some s) (hp : EM s.pre) (ht : (∀ q, o.guard = some q -> JI ops σ.sl q.1 q.2 = some true) -> EM (bZ σ.sl o)) : StepO P mt ops r σ o s.val s.upd s.touch := by
  have mp : ∀ (l : List Nat), (l.map λ i => (i, σ.H i)).map (·.1) = l := λ l => by
    induction l with
    | nil => rfl
    | cons a l ih => simp only [List.map_cons, ih]
  have ht' : ∀ {j want g}, o.guard = some (j, want) -> JI ops σ.sl j want = some g -> g = true -> EM (bZ σ.sl o) := λ hg hw hgt => ht λ q hq => by
    rw [hg] at hq; cases hq; rw [hw, hgt]
  unfold V3 at h
  split at h
  · rename_i hg
    unfold BSV at h
    split at h
    · rename_i f args ats ho
      split at h
      · rename_i x hx
        split at h
        · rename_i hf
          cases h
          obtain ⟨g, first, caps, he, hc⟩ := Xc hΓ hx
          have := StepO.call (mt := mt) (ops := ops) hg ho he (hc hp) (Uj _ _) (Ix hf)
          rw [mp] at this; exact this
        · cases h
      · cases h
    · rename_i y m args ats ho
      split at h
      · rename_i t d hy
        split at h
        · rename_i g0 hm
          split at h
          · rename_i x hx
            split at h
            · rename_i hf
              cases h
              obtain ⟨g, first, caps, he, hc⟩ := Xc hΓ hx
              cases he
              have hc' := hc hp
              simp only [List.cons_append, List.nil_append, List.append_nil] at hc'
              have := StepO.inv (mt := mt) (ops := ops) hg ho hy hm hc' (Uj _ _) (Ix hf)
              rw [mp] at this; exact this
            · cases h
          · cases h
        · cases h
      · cases h
    · rename_i c a b ho
      split at h
      · rename_i t hc
        split at h
        · rename_i hf
          cases h
          have h0 := ht λ q hq => by rw [hg] at hq; cases hq
          have h1 : EM (Nf (t = true) (BU σ.sl a) ++ Nf (t = false) (BU σ.sl b)) := by
            unfold bZ at h0
            rw [ho, hg] at h0
            simp only [hc, EJ, Nf, List.nil_append] at h0
            exact h0
          have := StepO.op (P := P) (mt := mt) (ops := ops) (r := r) (σ := σ) (o := o) (e := ⟨AHY t (EJ (BU σ.sl a)) (EJ (BU σ.sl b)), [], Nf (t = true) (BU σ.sl a) ++ Nf (t = false) (BU σ.sl b)⟩) hg (by rw [ho]; simp only [opA, hc]) h1 (Tj hf)
          rw [ho] at this; exact this
        · cases h
      · cases h
    · split at h
      · rename_i e he
        split at h
        · rename_i hf
          cases h
          exact .op hg he hp (Tj hf)
        · cases h
      · cases h
  · rename_i j want hg
    split at h
    · rename_i g hw
      split at h
      · rename_i v touch p hst
        cases h
        unfold stepG at hst
        split at hst
        · rename_i f args ats ho
          split at hst
          · rename_i ids v p hx
            split at hst
            · rename_i hf
              cases hst
              obtain ⟨g', first, caps, he, hc⟩ := Xc hΓ hx
              have := StepO.gcall (mt := mt) (ops := ops) (r := r) hg hw ho he (λ h => by
                have := ht' hg hw h
                rw [mI (λ _ _ _ h => by cases h) σ.sl o ho _ hg] at this
                rw [ho]; exact this) (λ h => hc (Ce hp h)) (Uj _ _) (Ix hf)
              rw [mp] at this; exact this
            · cases hst
          · cases hst
        · split at hst
          · rename_i v p he
            split at hst
            · rename_i hf
              cases hst
              obtain ⟨p', h1, h2⟩ := BCD (sl := σ.sl) (o := o) he hg hp (ht' hg hw)
              exact .gop hg hw h1 h2 (Tj hf)
            · cases hst
          · cases hst
      · cases h
    · cases h
structure Run where
  st : AState
  pre : List Prop
  tab : List (List Nat × List Nat)
theorem oS (sl : Nat -> AVal) (dst : Option Tmp) (v : AVal) (t : Nat) : Yy sl dst v t = if dst = some t then v else sl t := by
  cases dst with
  | none => simp [Yy]
  | some d =>
    by_cases h : t = d
    · simp [Yy, h]
    · simp [Yy, h, Ne.symm h]
def tagC (ops : Array Oper) (k : Nat) (σ : AState) (o : Oper) : List Prop := match o.guard with
  | none => AYU ops k σ.sl o
  | some (j, want) => match JI ops σ.sl j want with
    | some g => Yi g (AYU ops k σ.sl o)
    | none => []
def AGY (P : Program) (Γ : FuncId -> Option Spec) (mt : Bool) (ops : Array Oper) (base n : Nat) : List Oper -> Nat -> AState -> Option Run
  | [], _, σ => some ⟨σ, [], []⟩
  | o :: l, k, σ => if AKO n o then match V3 P Γ mt ops (base + 16 * k) σ o with
      | some s => match AGY P Γ mt ops base n l (k + 1) (σ.app o.dst s.val s.upd) with
        | some x => some ⟨x.st, tagC ops k σ o ++ (s.pre ++ x.pre), (s.touch, s.upd.map (·.1)) :: x.tab⟩
        | none => none
      | none => none
    else none
def jM (l : List (List Nat × List Nat)) : qX := λ k => l.getD k ([], [])
theorem E9 {ops : Array Oper} {k : Nat} {o : Oper} (hI : GInv ops σ.sl k) (hl : Y4 ops.toList 0 = true) (ho : ops[k]? = some o) (h : EM (tagC ops k σ o)) (hg : ∀ q, o.guard = some q -> JI ops σ.sl q.1 q.2 = some true) : EM (bZ σ.sl o) := by
  refine AVC hI hl ho hg ?_
  unfold tagC at h
  split at h
  · exact h
  · rename_i j want hq
    have := hg _ hq
    simp only at this
    rw [this] at h
    exact Ce h rfl
theorem xG {Γ : FuncId -> Option Spec} (hΓ : GOk P Γ) {mt : Bool} {ops : Array Oper} {base n : Nat} {K : AState -> Prop} (hl : Y4 ops.toList 0 = true) (hd : Hw ops.toList = true) : ∀ (l : List Oper) (σ : AState) (x : Run) (T0 : List (List Nat × List Nat)), ops.toList.drop T0.length = l -> GInv ops σ.sl T0.length -> AGY P Γ mt ops base n l T0.length σ = some x -> EM x.pre -> K x.st ->
    LexT P mt ops base n (jM (T0 ++ x.tab)) K l T0.length σ
  | [], σ, x, T0, _, _, h, _, hK => by simp only [AGY, Option.some.injEq] at h; subst h; exact hK
  | o :: l, σ, x, T0, hdr, hI, h, hp, hK => by
    simp only [AGY] at h
    have ho : ops[T0.length]? = some o := by
      have : (ops.toList.drop T0.length)[0]? = some o := by rw [hdr]; rfl
      simpa using this
    split at h
    · rename_i hdo
      split at h
      · rename_i s hs
        split at h
        · rename_i y hy
          cases h
          obtain ⟨hp0, hp1⟩ := CB hp
          obtain ⟨hp1, hp2⟩ := CB hp1
          have hI' : GInv ops (σ.app o.dst s.val s.upd).sl (T0.length + 1) := hI.next hl hd ho (λ q hq => V7 hs q hq) _ (oS _ _ _)
          have ih := xG hΓ hl hd l _ y (T0 ++ [(s.touch, s.upd.map (·.1))]) (by
            have := congrArg List.tail hdr
            simpa using this) (by simpa using hI') (by simpa using hy) hp2 hK
          have ht : jM (T0 ++ ((s.touch, s.upd.map (·.1)) :: y.tab)) T0.length = (s.touch, s.upd.map (·.1)) := by simp [jM]
          refine ⟨s.val, s.upd, s.touch, Yp hΓ hs hp1 (E9 hI hl ho hp0), Wj hdo, by rw [ht], by rw [ht], ?_⟩
          simpa using ih
        · cases h
      · cases h
    · cases h
theorem AIX {mt : Bool} {ops : Array Oper} {base n : Nat} {T : qX} {K : AState -> Prop} : ∀ (l : List Oper) (k : Nat) (σ : AState), LexT P mt ops base n T K l k σ -> LexE P mt ops base n K l k σ
  | [], _, _, h => h
  | o :: l, k, σ, h => by
    obtain ⟨val, upd, touch, h1, h2, _, _, h5⟩ := h
    exact ⟨val, upd, touch, h1, h2, AIX l (k + 1) _ h5⟩
def dW (P : Program) (Γ : FuncId -> Option Spec) (mt : Bool) (base n : Nat) (ops : Array Oper) (draw : Bool) (σ : AState) (K : AState -> Prop) : Prop :=
  match AGY P Γ mt ops base n ops.toList 0 σ with
  | some x => if Y4 ops.toList 0 && Hw ops.toList && (!draw || lexFromT .any ops (jM x.tab) ops.size 0 (Array.replicate ops.size false)) then cM x.pre (K x.st) else False
  | none => False
theorem qW {Γ : FuncId -> Option Spec} (hΓ : GOk P Γ) (hm : P.follows .mixedOrders = true) {mt : Bool} {base : Nat} {id : Nat} {ops : Array Oper} {draw : Bool} (h : dW P Γ mt base c.n ops draw σ (Q .normal)) : CodeE P c (.region id ops draw) Q σ := by
  unfold dW at h
  split at h
  · rename_i x hx
    split at h
    · rename_i hc
      simp only [Bool.and_eq_true] at hc
      obtain ⟨⟨hl, hd⟩, h1⟩ := hc
      obtain ⟨h2, h3⟩ := NV h
      have hl := xG hΓ (K := Q .normal) hl hd ops.toList σ x [] (by simp) (λ i _ _ _ hi => by simp at hi) (by simpa using hx) h2 h3
      simp only [List.nil_append, List.length_nil] at hl
      cases draw with
      | false => exact AUM (AIX _ _ _ hl)
      | true => exact kY hm (by simpa using h1) hl
    · exact h.elim
  · exact h.elim
structure RunG where
  st : AState
  pre : List Prop
  tab : List (List Nat × List Nat)
  g : Option Bool
def AYY (P : Program) (Γ : FuncId -> Option Spec) (r : Nat) (σ : AState) (as : Bool) (op : Op) : Option Stp := match op with
  | .call ⟨.value f, args, _⟩ => match AFW Γ r (EJ (BU σ.sl f)) (args.toList.map λ x => EJ (BU σ.sl x)) σ.H with
    | some x => match as with
      | false => some ⟨.opt false x.val, [], [], []⟩
      | true => if Ta σ.H r then some ⟨.opt true x.val, x.upd, x.ids ++ (List.range 16).map (r + ·), x.pre⟩ else none
    | none => none
  | _ => none
def runG (P : Program) (Γ : FuncId -> Option Spec) (md : Nat -> Nat) (as : Bool) (ops : Array Oper) (base n : Nat) : List Oper -> Nat -> AState -> Option RunG
  | [], _, σ => some ⟨σ, [], [], none⟩
  | o :: l, k, σ => if AKO n o then bif Nat.beq (md k) 10 then match o.guard with
      | some (j, want) => match JI ops σ.sl j want, AYY P Γ (base + 16 * k) σ as o.op with
        | some g, some s => match runG P Γ md as ops base n l (k + 1) (σ.app o.dst s.val s.upd) with
          | some ⟨st, pre, tab, none⟩ => some ⟨st, tagC ops k σ o ++ (s.pre ++ pre), (s.touch, s.upd.map (·.1)) :: tab, some g⟩
          | _ => none
        | _, _ => none
      | none => none
    else match V3 P Γ false ops (base + 16 * k) σ o with
      | some s => match runG P Γ md as ops base n l (k + 1) (σ.app o.dst s.val s.upd) with
        | some x => some ⟨x.st, tagC ops k σ o ++ (s.pre ++ x.pre), (s.touch, s.upd.map (·.1)) :: x.tab, x.g⟩
        | none => none
      | none => none
    else none
theorem AQZ {Γ : FuncId -> Option Spec} (hΓ : GOk P Γ) {ops : Array Oper} {r : Nat} {o : Oper} {s : Stp} {as : Bool} {j : Nat} {want : Bool} (hg : o.guard = some (j, want)) (hw : JI ops σ.sl j want = some as) (h : AYY P Γ r σ as o.op = some s) (hp : EM s.pre) (ht : as = true -> EM (bZ σ.sl o)) : StepO P false ops r σ o s.val s.upd s.touch := by
  have mp : ∀ (l : List Nat), (l.map λ i => (i, σ.H i)).map (·.1) = l := λ l => by
    induction l with
    | nil => rfl
    | cons a l ih => simp only [List.map_cons, ih]
  unfold AYY at h
  split at h
  · rename_i f args ats ho
    split at h
    · rename_i x hx
      split at h
      · cases h; exact .gskip hg hw
      · split at h
        · rename_i hf
          cases h
          obtain ⟨g', first, caps, he, hc⟩ := Xc hΓ hx
          have := StepO.gcallT (mt := false) (ops := ops) (r := r) hg hw ho he (by
            have := ht rfl
            rw [mI (λ _ _ _ h => by cases h) σ.sl o ho _ hg] at this
            rw [ho]; exact this) (hc hp) (Uj _ _) (Ix hf)
          rw [mp] at this; exact this
        · cases h
    · cases h
  · cases h
theorem dP {Γ : FuncId -> Option Spec} (hΓ : GOk P Γ) {md : Nat -> Nat} {as : Bool} {ops : Array Oper} {base n : Nat} {K : AState -> Prop} (hl : Y4 ops.toList 0 = true) (hd : Hw ops.toList = true) : ∀ (l : List Oper) (σ : AState) (x : RunG) (T0 : List (List Nat × List Nat)), ops.toList.drop T0.length = l -> GInv ops σ.sl T0.length -> runG P Γ md as ops base n l T0.length σ = some x -> (∀ g, x.g = some g -> g = as) -> EM x.pre -> K x.st ->
    LexT P false ops base n (jM (T0 ++ x.tab)) K l T0.length σ
  | [], σ, x, T0, _, _, h, _, _, hK => by simp only [runG, Option.some.injEq] at h; subst h; exact hK
  | o :: l, σ, x, T0, hdr, hI, h, hga, hp, hK => by
    simp only [runG] at h
    have ho : ops[T0.length]? = some o := by
      have : (ops.toList.drop T0.length)[0]? = some o := by rw [hdr]; rfl
      simpa using this
    split at h
    case isFalse => cases h
    rename_i hdo
    cases hm : Nat.beq (md T0.length) 10 with
    | true =>
      rw [hm] at h
      simp only [cond_true] at h
      split at h
      case h_2 => cases h
      rename_i j want hgd
      split at h
      case h_2 => cases h
      rename_i g s hgA hs
      split at h
      case h_2 => cases h
      rename_i st pre tab hy
      cases h
      obtain rfl : g = as := hga g rfl
      obtain ⟨hp0, hp1⟩ := CB hp
      obtain ⟨hp1, hp2⟩ := CB hp1
      have hv : ∃ v, s.val = .opt g v := by
        unfold AYY at hs
        split at hs
        · split at hs
          · split at hs
            · cases hs; exact ⟨_, rfl⟩
            · split at hs
              · cases hs; exact ⟨_, rfl⟩
              · cases hs
          · cases hs
        · cases hs
      obtain ⟨v, hv⟩ := hv
      have hI' : GInv ops (σ.app o.dst s.val s.upd).sl (T0.length + 1) := hI.next hl hd ho (λ q hq => ⟨g, v, hv, by rw [hgd] at hq; cases hq; exact hgA⟩) _ (oS _ _ _)
      have ih := dP hΓ hl hd l _ ⟨st, pre, tab, none⟩ (T0 ++ [(s.touch, s.upd.map (·.1))]) (by
        have := congrArg List.tail hdr
        simpa using this) (by simpa using hI') (by simpa using hy) (λ _ h => by cases h) hp2 hK
      have ht : jM (T0 ++ ((s.touch, s.upd.map (·.1)) :: tab)) T0.length = (s.touch, s.upd.map (·.1)) := by simp [jM]
      refine ⟨s.val, s.upd, s.touch, AQZ hΓ hgd hgA hs hp1 (λ hgt => E9 hI hl ho hp0 λ q hq => by rw [hgd] at hq; cases hq; rw [hgA, hgt]), Wj hdo, by rw [ht], by rw [ht], ?_⟩
      simpa using ih
    | false =>
      rw [hm] at h
      simp only [cond_false] at h
      split at h
      case h_2 => cases h
      rename_i s hs
      split at h
      case h_2 => cases h
      rename_i y hy
      cases h
      obtain ⟨hp0, hp1⟩ := CB hp
      obtain ⟨hp1, hp2⟩ := CB hp1
      have hI' : GInv ops (σ.app o.dst s.val s.upd).sl (T0.length + 1) := hI.next hl hd ho (λ q hq => V7 hs q hq) _ (oS _ _ _)
      have ih := dP hΓ hl hd l _ y (T0 ++ [(s.touch, s.upd.map (·.1))]) (by
        have := congrArg List.tail hdr
        simpa using this) (by simpa using hI') (by simpa using hy) hga hp2 hK
      have ht : jM (T0 ++ ((s.touch, s.upd.map (·.1)) :: y.tab)) T0.length = (s.touch, s.upd.map (·.1)) := by simp [jM]
      refine ⟨s.val, s.upd, s.touch, Yp hΓ hs hp1 (E9 hI hl ho hp0), Wj hdo, by rw [ht], by rw [ht], ?_⟩
      simpa using ih
def APH (P : Program) (Γ : FuncId -> Option Spec) (md : Nat -> Nat) (base n : Nat) (ops : Array Oper) (σ : AState) (K : AState -> Prop) : Prop :=
  match runG P Γ md true ops base n ops.toList 0 σ, runG P Γ md false ops base n ops.toList 0 σ with
  | some ⟨s1, p1, t1, some g1⟩, some ⟨s0, p0, t0, some g0⟩ => if Y4 ops.toList 0 && Hw ops.toList && lexFromT .any ops (jM t1) ops.size 0 (Array.replicate ops.size false) && lexFromT .any ops (jM t0) ops.size 0 (Array.replicate ops.size false) then cM [g0 = g1] (bif g1 then cM p1 (K s1) else cM p0 (K s0)) else False
  | _, _ => False
theorem AIS {Γ : FuncId -> Option Spec} (hΓ : GOk P Γ) (hm : P.follows .mixedOrders = true) {md : Nat -> Nat} {base : Nat} {id : Nat} {ops : Array Oper} (h : APH P Γ md base c.n ops σ (Q .normal)) : CodeE P c (.region id ops true) Q σ := by
  unfold APH at h
  split at h
  case h_2 => exact h.elim
  rename_i s1 p1 t1 g1 s0 p0 t0 g0 h1 h0
  split at h
  case isFalse => exact h.elim
  rename_i hc
  simp only [Bool.and_eq_true] at hc
  obtain ⟨⟨⟨hl, hd⟩, l1⟩, l0⟩ := hc
  obtain ⟨hgg, h⟩ := NV h
  obtain rfl : g0 = g1 := hgg
  cases g0 with
  | true =>
    obtain ⟨h2, h3⟩ := NV (show cM p1 (Q .normal s1) from h)
    have hx := dP hΓ (K := Q .normal) hl hd ops.toList σ _ [] (by simp) (λ i _ _ _ hi => by simp at hi) (by simpa using h1) (λ g hg => by cases hg; rfl) h2 h3
    simp only [List.nil_append, List.length_nil] at hx
    exact kY hm (by simpa using l1) hx
  | false =>
    obtain ⟨h2, h3⟩ := NV (show cM p0 (Q .normal s0) from h)
    have hx := dP hΓ (K := Q .normal) hl hd ops.toList σ _ [] (by simp) (λ i _ _ _ hi => by simp at hi) (by simpa using h0) (λ g hg => by cases hg; rfl) h2 h3
    simp only [List.nil_append, List.length_nil] at hx
    exact kY hm (by simpa using l0) hx
end Go.Sym

namespace Go.Sym
variable {P : Program} {B B' : Gu} {ι ι' : Nat -> Pl} {H H' : Heap} {D D' : Nat -> Prop} {w w' : World} {c : Ctx} {σ : AState} {Q : Exit -> AState -> Prop}
structure Shape where
  α : Type
  dflt : α
  T : α -> ST
  inv : α -> Prop
  meas : α -> Nat
  first : List (Nat × Nat) := []
  again : List (Nat × Nat) := []
  ffz : List Nat := []
  afz : List Nat := []
  /-- what the annotations within are told, behind the measure -/
  tag : List Nat := []
def Shape.at1 (s : Shape) : List (Nat × Nat) × List Nat := (s.first, s.ffz)
def Shape.at2 (s : Shape) : List (Nat × Nat) × List Nat := (s.again, s.afz)
abbrev nQ := List Shape
def mN (E : List Nat) (sel : Shape -> List (Nat × Nat) × List Nat) (σ : AState) (K : (s : Shape) -> s.α -> Prop) : List Shape -> Prop
  | [] => False
  | s :: l => if (Ks E (sel s).2 (sel s).1 (s.T s.dflt) σ).isSome then ∃ a, AZK (Ks E (sel s).2 (sel s).1 (s.T a) σ) (K s a) else mN E sel σ K l
theorem Hj {E : List Nat} {sel : Shape -> List (Nat × Nat) × List Nat} {K : (s : Shape) -> s.α -> Prop} : ∀ {l : List Shape}, mN E sel σ K l -> ∃ s ∈ l, ∃ a, IX (Ks E (sel s).2 (sel s).1 (s.T a) σ) /\ K s a
  | [], h => h.elim
  | s :: l, h => by
    unfold mN at h
    split at h
    · obtain ⟨a, h⟩ := h
      obtain ⟨h1, h2⟩ := uO h
      exact ⟨s, by simp, a, h1, h2⟩
    · obtain ⟨s', h1, h2⟩ := Hj h
      exact ⟨s', by simp [h1], h2⟩
def allS (K : Shape -> Prop) : List Shape -> Prop
  | [] => True
  | [s] => K s
  | s :: l => K s /\ allS K l
theorem nE {K : Shape -> Prop} : ∀ {l : List Shape}, allS K l -> ∀ s ∈ l, K s
  | [], _, s, h => by cases h
  | [t], h, s, hs => by simp at hs; subst hs; exact h
  | t :: u :: l, h, s, hs => by
    rcases List.mem_cons.1 hs with rfl | hs
    · exact h.1
    · exact nE (l := u :: l) h.2 s hs
def qV : Code -> Nat
  | .region id _ _ => id
  | .seq a _ => qV a
  | .block _ b => qV b
  | .cond _ t _ => qV t
  | .loop b => qV b
  | .scope b => qV b
  | .rangeFunc _ _ a _ => qV a
  | _ => 0
def AYI (Q : Exit -> AState -> Prop) : Exit -> AState -> Prop
  | .goto _, _ => False
  | e, σ => Q e σ
mutual
def frV (F : pT) : AVal -> AVal
  | .own id k i n => match F id with
    | some (k2, _, get) => if Nat.beq k k2 then .d (.list k n (λ j => get (i + j)) false) else .any
    | none => .own id k i n
  | .agg cs => AIC (frL F cs)
  | .tup cs => AJK (frL F cs)
  | .fn f a b => .fn f (frL F a) (frL F b)
  | .opt g a => .opt g (frV F a)
  | a => a
def frL (F : pT) : List AVal -> List AVal
  | [] => []
  | a :: r => frV F a :: frL F r
end
mutual
def frC (F : pT) : AVal -> List Prop
  | .own id _ i n => match F id with
    | some (_, m, _) => [i + n <= m]
    | none => []
  | .agg cs => frCL F cs
  | .tup cs => frCL F cs
  | .fn _ a b => frCL F a ++ frCL F b
  | .opt _ a => frC F a
  | _ => []
def frCL (F : pT) : List AVal -> List Prop
  | [] => []
  | a :: r => frC F a ++ frCL F r
end
theorem Ol (F : pT) : ∀ l : List AVal, (frL F l).length = l.length
  | [] => rfl
  | a :: l => by simp [frL, Ol F l]
theorem BJV (x : Value) : vEq x x := by
  unfold vEq; split <;> simp_all
mutual
theorem Mi : ∀ (x : DVal), KD x x
  | .v x => by simp only [KD]; exact BJV x
  | .agg xs => by simp only [KD]; exact tS xs
  | .tup xs => by simp only [KD]; exact tS xs
  | .list k n g e => by simp only [KD]; exact ⟨.inl trivial, trivial, id, λ i _ => Mi (g i)⟩
  | .arr k n g => by simp only [KD]; exact ⟨trivial, trivial, λ i _ => Mi (g i)⟩
  | .eref x c => by simp only [KD]; exact ⟨trivial, Mi x⟩
  | .iface t x => by simp only [KD]; exact ⟨trivial, Mi x⟩
  | .anyB => by simp only [KD]
theorem tS : ∀ (l : List DVal), Hr l l
  | [] => trivial
  | x :: l => ⟨Mi x, tS l⟩
end
mutual
theorem D7 {F : pT} (hF : lL B B' ι F) : ∀ (a : AVal) (v : Value), EM (frC F a) -> VRel B ι D a v -> VRel B' ι D (frV F a) v
  | .own id k i n, v, h, hv => by
    simp only [frC] at h
    simp only [frV]
    split
    · rename_i k2 m get hf
      simp only [hf] at h
      split
      · rename_i hk
        have := Nat.eq_of_beq_eq_true hk; subst this
        exact .d (AHU hF hf rfl h (λ j _ => Mi _) hv)
      · exact .any
    · exact hv.mono hF.1 λ i hi => ⟨hi, rfl⟩
  | .agg cs, v, h, hv => by
    simp only [frV]
    cases hv with
    | agg hl hr => exact oA (by rw [Ol]; exact hl) (Cr hF cs _ h hr)
  | .tup cs, v, h, hv => by
    simp only [frV]
    cases hv with
    | tup hl hr => exact AIV (by rw [Ol]; exact hl) (Cr hF cs _ h hr)
  | .fn f a b, v, h, hv => by
    simp only [frV]
    simp only [frC] at h
    obtain ⟨h1, h2⟩ := CB h
    cases hv with
    | fn h3 h4 h5 h6 => exact .fn (by rw [Ol]; exact h3) (by rw [Ol]; exact h4) (Cr hF a _ h1 h5) (Cr hF b _ h2 h6)
  | .opt g a, v, h, hv => by
    simp only [frV]
    cases hv with
    | opt h1 h2 => exact .opt (λ hg => D7 hF a v h (h1 hg)) h2
  | .d x, v, _, hv => by simp only [frV]; exact hv.mono hF.1 λ i hi => ⟨hi, rfl⟩
  | .bptr i c, v, _, hv => by simp only [frV]; exact hv.mono hF.1 λ i hi => ⟨hi, rfl⟩
  | .rptr i k e c, v, _, hv => by simp only [frV]; exact hv.mono hF.1 λ i hi => ⟨hi, rfl⟩
  | .mref i, v, _, hv => by simp only [frV]; exact hv.mono hF.1 λ i hi => ⟨hi, rfl⟩
  | .any, v, _, _ => by simp only [frV]; exact .any
theorem Cr {F : pT} (hF : lL B B' ι F) : ∀ (l : List AVal) (ys : Array Value), EM (frCL F l) -> (∀ (j : Nat) (x : AVal) (y : Value), l[j]? = some x -> ys[j]? = some y -> VRel B ι D x y) ->
    ∀ (j : Nat) (x : AVal) (y : Value), (frL F l)[j]? = some x -> ys[j]? = some y -> VRel B' ι D x y
  | [], ys, _, _, j, x, y, hx, _ => by simp [frL] at hx
  | a :: l, ys, h, hr, j, x, y, hx, hy => by
    obtain ⟨h1, h2⟩ := CB (by simpa only [frCL] using h)
    cases j with
    | zero =>
      simp only [frL, List.getElem?_cons_zero, Option.some.injEq] at hx
      subst hx
      exact D7 hF a y h1 (hr 0 a y rfl hy)
    | succ j =>
      simp only [frL, List.getElem?_cons_succ] at hx
      exact Cr hF l (ys.extract 1 ys.size) h2 (λ i x y hx hy => hr (i + 1) x y (by simpa using hx) (by
        rw [Array.getElem?_extract] at hy
        split at hy
        · rw [Nat.add_comm]; exact hy
        · cases hy)) j x y hx (by
        have hlt := (Array.getElem?_eq_some_iff.1 hy).1
        rw [Array.getElem?_extract, if_pos (by omega), Nat.add_comm]; exact hy)
end
mutual
theorem VRel.keep {p : Nat -> Bool} (hp : ∀ i, p i = true -> D' i /\ ι' i = ι i) : ∀ (a : AVal) (v : Value), Pg p a = true -> VRel B ι D a v -> VRel B ι' D' a v
  | .d x, v, _, hv => .d hv.d_inv
  | .agg cs, v, h, hv => by
    cases hv with
    | agg hl hr => exact .agg hl λ j x y hx hy => VRel.keepL hp cs (by simpa only [Pg] using h) j x y hx (hr j x y hx hy)
  | .tup cs, v, h, hv => by
    cases hv with
    | tup hl hr => exact .tup hl λ j x y hx hy => VRel.keepL hp cs (by simpa only [Pg] using h) j x y hx (hr j x y hx hy)
  | .bptr i c, v, h, hv => by cases hv; rw [<- (hp i (by simpa only [Pg] using h)).2]; exact .bptr (hp i (by simpa only [Pg] using h)).1
  | .rptr i k e c, v, h, hv => by cases hv; rw [<- (hp i (by simpa only [Pg] using h)).2]; exact .rptr (hp i (by simpa only [Pg] using h)).1
  | .own i k e n, v, h, hv => by
    cases hv with
    | own _ h1 h2 => rw [<- (hp i (by simpa only [Pg] using h)).2] at h2 ⊢; exact .own (hp i (by simpa only [Pg] using h)).1 h1 h2
  | .fn f a b, v, h, hv => by
    simp only [Pg, Bool.and_eq_true] at h
    cases hv with
    | fn h1 h2 h3 h4 => exact .fn h1 h2 (λ j x y hx hy => VRel.keepL hp a h.1 j x y hx (h3 j x y hx hy)) λ j x y hx hy => VRel.keepL hp b h.2 j x y hx (h4 j x y hx hy)
  | .mref i, v, h, hv => by cases hv; rw [<- (hp i (by simpa only [Pg] using h)).2]; exact .mref (hp i (by simpa only [Pg] using h)).1
  | .any, v, _, _ => .any
  | .opt g a, v, h, hv => by
    cases hv with
    | opt h1 h2 => exact .opt (λ hg => VRel.keep hp a v (by simpa only [Pg] using h) (h1 hg)) h2
theorem VRel.keepL {p : Nat -> Bool} (hp : ∀ i, p i = true -> D' i /\ ι' i = ι i) : ∀ (l : List AVal), okL p l = true -> ∀ (j : Nat) (x : AVal) (v : Value), l[j]? = some x -> VRel B ι D x v -> VRel B ι' D' x v
  | [], _, j, x, v, hx, _ => by simp at hx
  | a :: l, h, 0, x, v, hx, hv => by simp at hx; subst hx; simp only [okL, Bool.and_eq_true] at h; exact VRel.keep hp a v h.1 hv
  | a :: l, h, j + 1, x, v, hx, hv => by simp only [okL, Bool.and_eq_true] at h; exact VRel.keepL hp l h.2 j x v (by simpa using hx) hv
end
structure Pack where
  sl : List Nat
  ids : List Nat
  fz : List Nat := []
def Rw (F : pT) : HCell -> HCell
  | .live (.box es) => .live (.box (frL F es))
  | .live (.abox es m g) => .live (.abox (frL F es) m g)
  | x => x
def BPT (F : pT) : HCell -> List Prop
  | .live (.box es) => frCL F es
  | .live (.abox es _ _) => frCL F es
  | _ => []
def ABJ (p : Nat -> Bool) : HCell -> Bool
  | .live o => okO p o
  | .dead => true
  | .none => false
def ZX (p : Pack) (σ : AState) : ST :=
  ⟨p.sl.map λ t => (t, frV (RY σ.H p.fz) (σ.sl t)), p.ids.map λ i => (i, Rw (RY σ.H p.fz) (IC σ.H p.fz i))⟩
def AZN (p : Pack) (σ : AState) : List Prop := (p.sl.flatMap λ t => frC (RY σ.H p.fz) (σ.sl t)) ++ p.ids.flatMap λ i => BPT (RY σ.H p.fz) (IC σ.H p.fz i)
def AEH (p : Pack) (E : List Nat) (s : ST) : Bool :=
  s.sl.all (λ x => Pg (λ i => p.ids.contains i) x.2) && s.H.all (λ x => ABJ (λ i => p.ids.contains i) x.2) && E.all (λ i => p.ids.contains i) && nodup p.ids
def qU (o : Option Pack) (E : List Nat) (σ : AState) (K : AState -> Prop) : Prop := match o with
  | none => K σ
  | some p => if AEH p E (ZX p σ) then cM (AZN p σ) (K (ZX p σ).st) else False
theorem Tb {α : Type} {f : α -> List Prop} : ∀ {l : List α}, EM (l.flatMap f) -> ∀ x ∈ l, EM (f x)
  | [], _, x, hx => by cases hx
  | a :: l, h, x, hx => by
    rw [List.flatMap_cons] at h
    obtain ⟨h1, h2⟩ := CB h
    rcases List.mem_cons.1 hx with rfl | hx
    · exact h1
    · exact Tb h2 x hx
theorem kJ (f : Nat -> AVal) : ∀ (l : List Nat) (t : Nat), NY (l.map λ t => (t, f t)) t = .any ∨ (t ∈ l /\ NY (l.map λ t => (t, f t)) t = f t)
  | [], t => .inl rfl
  | a :: l, t => by
    simp only [List.map_cons, NY]
    split
    · rename_i h; subst h; exact .inr ⟨by simp, rfl⟩
    · rcases kJ f l t with h | ⟨h1, h2⟩
      · exact .inl h
      · exact .inr ⟨by simp [h1], h2⟩
theorem ARW (f : Nat -> HCell) : ∀ (l : List Nat) (i : Nat), Cq (l.map λ i => (i, f i)) i = if l.contains i then some (f i) else none
  | [], i => rfl
  | a :: l, i => by
    simp only [List.map_cons, Cq, ARW f l, List.contains_cons]
    by_cases h : i = a
    · subst h; simp
    · have : (i == a) = false := by simpa using h
      rw [if_neg h, this]; simp
theorem Moved.pack {B0 : Gu} {ι0 : Nat -> Pl} {H0 : Heap} {w0 : World} {p : Pack} {E : List Nat} (hE : ∀ i, H0.dom i -> i ∈ E) (hok : AEH p E (ZX p σ) = true) (hc : EM (AZN p σ)) (hm0 : Moved B0 ι0 H0 w0 B ι σ.H w) :
    ∃ B', Moved B0 ι0 H0 w0 B' ι (ZX p σ).st.H w /\ (∀ t v, VRel B ι σ.H.dom (σ.sl t) v -> VRel B' ι (ZX p σ).st.H.dom ((ZX p σ).st.sl t) v) /\ (∀ i o, (ZX p σ).st.H i = .live o -> ∃ o', σ.H i = .live o') /\
      (∀ b c, B b = some c -> B' b = some c) /\ ∀ i ∈ E, (ZX p σ).st.H.dom i := by
  simp only [AEH, Bool.and_eq_true, List.all_eq_true] at hok
  obtain ⟨⟨⟨o1, o2⟩, o3⟩, o4⟩ := hok
  obtain ⟨c1, c2⟩ := CB hc
  obtain ⟨B', hk, hF⟩ := XH p.fz hm0.heap
  have hm := hm0.trans hk
  have hcell : ∀ i ∈ p.ids, ABJ (λ i => p.ids.contains i) (Rw (RY σ.H p.fz) (IC σ.H p.fz i)) = true := λ i hi => o2 _ (List.mem_map.2 ⟨i, hi, rfl⟩)
  have hH : ∀ i, (ZX p σ).st.H i = if p.ids.contains i then Rw (RY σ.H p.fz) (IC σ.H p.fz i) else .none := λ i => by
    show (Cq _ i).getD .none = _
    rw [ZX, ARW]; split <;> rfl
  have hdom : ∀ i, p.ids.contains i = true -> (ZX p σ).st.H.dom i /\ ι i = ι i := λ i hi => by
    refine ⟨?_, rfl⟩
    unfold Heap.dom
    rw [hH, if_pos hi]
    have := hcell i (by simpa using hi)
    intro he; rw [he] at this; cases this
  have live : ∀ i o, (ZX p σ).st.H i = .live o -> ∃ o', i ∈ p.ids /\ IC σ.H p.fz i = .live o' /\ Rw (RY σ.H p.fz) (.live o') = .live o := λ i o hi => by
    rw [hH] at hi
    split at hi
    · rename_i hc
      cases hq : IC σ.H p.fz i with
      | live o' => rw [hq] at hi; exact ⟨o', by simpa using hc, rfl, hi⟩
      | none => rw [hq] at hi; cases hi
      | dead => rw [hq] at hi; cases hi
    · cases hi
  refine ⟨B', ?_, λ t v hv => ?_, λ i o hi => by obtain ⟨o', _, ho, _⟩ := live i o hi; exact ⟨o', Na p.fz ho⟩, hF.1, λ i hi => (hdom i (o3 i hi)).1⟩
  · refine ⟨hm.bm, hm.bn, λ i hi => ?_, ⟨λ i o hi => ?_, λ i j o o' hi hj hij => ?_, λ i o hi => ?_, hm.heap.imm⟩, λ i o hi => ?_, hm.frame, hm.size, hm.calm⟩
    · exact ⟨(hdom i (o3 i (hE i hi))).1, (hm.im i hi).2⟩
    · obtain ⟨o', hid, ho, he⟩ := live i o hi
      have h1 := hm0.heap.obj _ _ (Na p.fz ho)
      generalize w.heap[(ι i).b]? = q at h1 ⊢
      have hok := hcell i hid
      rw [ho] at hok
      cases o' with
      | box es =>
        simp only [Rw, HCell.live.injEq] at he
        subst he
        have h2 := Tb c2 i hid
        rw [ho] at h2
        cases h1 with
        | box hsz hr =>
          refine .box (by rw [Ol]; exact hsz) λ j x z hx hz => ?_
          exact VRel.keepL hdom _ (by simpa only [ABJ, Rw, okO] using hok) j x z hx (Cr hF es _ h2 hr j x z hx hz)
      | row k n g =>
        simp only [Rw, HCell.live.injEq] at he
        subst he
        cases h1 with
        | row a b cc d => exact .row a b cc λ i j x y hi hx hy => (d i j x y hi hx hy).mono hF.1
      | imap q z hs g st pend =>
        simp only [Rw, HCell.live.injEq] at he
        subst he
        cases h1 with
        | imap a => exact .imap (a.mono hF.1)
      | abox es m g =>
        simp only [Rw, HCell.live.injEq] at he
        subst he
        have h2 := Tb c2 i hid
        rw [ho] at h2
        cases h1 with
        | abox hsz hr hb =>
          refine .abox (by rw [Ol]; exact hsz) (λ j x z hx hz => ?_) (by rw [Ol]; exact hb)
          exact VRel.keepL hdom _ (by simpa only [ABJ, Rw, okO] using hok) j x z hx (Cr hF es _ h2 hr j x z hx hz)
      | miter m a b c d =>
        simp only [Rw, HCell.live.injEq] at he
        subst he
        cases h1 with
        | miter hD h1 h2 h3 h4 h5 => exact .miter (hdom m (by simpa only [ABJ, Rw, okO] using hok)).1 h1 h2 h3 h4 h5
    · obtain ⟨_, _, h1, _⟩ := live i o hi
      obtain ⟨_, _, h2, _⟩ := live j o' hj
      exact hm.heap.inj _ _ _ _ h1 h2 hij
    · obtain ⟨_, _, h1, _⟩ := live i o hi
      exact hm.heap.sep _ _ h1
    · obtain ⟨_, _, h1, _⟩ := live i o hi
      exact hm.own _ _ h1
  · rcases kJ (λ t => frV (RY σ.H p.fz) (σ.sl t)) p.sl t with h | ⟨h1, h2⟩
    · show VRel _ _ _ (NY _ t) _
      rw [ZX, h]; exact .any
    · show VRel _ _ _ (NY _ t) _
      rw [ZX, h2]
      exact VRel.keep hdom _ _ (o1 _ (List.mem_map.2 ⟨t, h1, rfl⟩)) (D7 hF _ _ (Tb c1 t h1) hv)
theorem Rel.pack {p : Pack} {E : List Nat} {a : Act} (hE : ∀ i, c.H0.dom i -> i ∈ E) (hok : AEH p E (ZX p σ) = true) (hc : EM (AZN p σ)) (hR : Rel c B ι σ a w) : ∃ B', Rel c B' ι (ZX p σ).st a w := by
  obtain ⟨B', h1, h2, h3, _⟩ := Moved.pack hE hok hc hR.mv
  obtain ⟨Ds, d1, d0, d2, d3⟩ := hR.defers
  refine ⟨B', λ t => h2 t _ (hR.slots t), hR.size, ⟨Ds, d1, d0, d2, λ D hD => ⟨(d3 D hD).1, (d3 D hD).2.here, λ i o hi => ?_⟩⟩, h1⟩
  obtain ⟨o', ho⟩ := h3 i o hi
  exact (d3 D hD).2.sep _ _ ho
theorem CodeE.noGoto {x : Code} (h : CodeE P c x (AYI Q) σ) : CodeE P c (.scope x) Q σ := by
  intro B ι a w hR
  refine qL (Code.wpIn_mono (λ e a w hq => ?_) (h B ι a w hR))
  obtain ⟨B', ι', σ', hq, hR'⟩ := hq
  cases e with
  | goto l => exact hq.elim
  | _ => exact ⟨B', ι', σ', hq, hR'⟩
theorem BBY {l : List Prop} {K K' : Prop} (hK : K -> K') (h : cM l K) : cM l K' := by
  cases l with
  | nil => exact hK h
  | cons => exact ⟨h.1, hK h.2⟩
theorem zC {Γ : FuncId -> Option Spec} {mt : Bool} {base n : Nat} {ops : Array Oper} {draw : Bool} {K K' : AState -> Prop} (hK : ∀ σ, K σ -> K' σ) (h : dW P Γ mt base n ops draw σ K) : dW P Γ mt base n ops draw σ K' := by
  unfold dW at *
  split at h
  · split at h
    · rename_i hc; rw [if_pos hc]; exact BBY (hK _) h
    · exact h.elim
  · exact h
end Go.Sym
