/- A list of operations, reckoned. -/
import Derived.Test.YtdbjalgfomknhaaSym8
set_option linter.unusedVariables false
set_option linter.unusedSimpArgs false
namespace Go.Sym
variable {P : Program} {B B' : JO} {ι ι' : Nat -> Pl} {H H' : Heap} {D : Nat -> Prop} {w w' : World} {c : Ctx} {σ : AState} {Q : Exit -> AState -> Prop}
structure CallR where
  ids : List Nat
  val : AVal
  upd : List (Nat × HCell)
  pre : List Prop
abbrev Spec := List AVal -> Heap -> Nat -> Option CallR
def AM (P : Program) (g : FuncId) (s : Spec) : Prop := ∀ as H r x, s as H r = some x -> BC x.pre -> BWG P g as r (x.ids.map λ i => (i, H i)) x.val x.upd
def isNone : HCell -> Bool
  | .none => true
  | _ => false
theorem QP {c : HCell} (h : isNone c = true) : c = .none := by cases c <;> first | rfl | cases h
def US (H : Heap) (r : Nat) : Bool := (List.range 16).all λ i => isNone (H (r + i))
theorem PR {r : Nat} (h : US H r = true) : ∀ i, r <= i -> i < r + 16 -> H i = .none := λ i h1 h2 => by
  simp only [US, List.all_eq_true, List.mem_range] at h
  have := QP (h (i - r) (by omega))
  rwa [show r + (i - r) = i by omega] at this
def BXL (n : Nat) (o : Oper) : Bool := match o.dst with
  | some d => Nat.blt d n
  | none => true
theorem qM {n : Nat} {o : Oper} (h : BXL n o = true) : ∀ d, o.dst = some d -> d < n := by
  intro d hd
  simpa [BXL, hd] using h
structure Stp where
  val : AVal
  upd : List (Nat × HCell)
  touch : List Nat
  pre : List Prop
def BJP (Γ : FuncId -> Option Spec) (r : Nat) (f : AVal) (args : List AVal) (H : Heap) : Option CallR := match f with
  | .fn (.func g) first caps => match Γ g with
    | some s => s (first ++ args ++ caps) H r
    | none => none
  | _ => none
def gopB (P : Program) (r : Nat) (ρ : Operand -> AVal) (H : Heap) (g : Bool) (op : Op) : Option (AVal × List Prop) := match op with
  | .pick c a b => match BF (ρ c) with
    | .d (.v (.bool t)) => some (AUT t (BF (ρ a)) (BF (ρ b)), [])
    | _ => none
  | .buildSlice t len ps => match GF P r t len (ps.toList.map λ p => (p.1, BF (ρ p.2))) with
    | some ⟨_, [(_, .live (.row k n get))], _⟩ => some (.d (.list k n get true), [])
    | _ => none
  | .makeSlice t l c => match JG P r t (BF (ρ l)) (BF (ρ c)) with
    | some ⟨_, [(_, .live (.row k n get))], p⟩ => some (.d (.list k n get true), XR g p)
    | _ => none
  | op => match opA P false r (λ x => BF (ρ x)) H op with
    | some ⟨v, [], p⟩ => some (v, XR g p)
    | _ => none
def CUN (P : Program) (Γ : FuncId -> Option Spec) (mt : Bool) (r : Nat) (σ : AState) : Op -> Option Stp
  | .call ⟨.value f, args, _⟩ => match BJP Γ r (AO σ.sl f) (args.toList.map (AO σ.sl)) σ.H with
    | some x => if US σ.H r then some ⟨x.val, x.upd, x.ids ++ (List.range 16).map (r + ·), x.pre⟩ else none
    | none => none
  | .call ⟨.invoke x m, args, _⟩ => match AO σ.sl x with
    | .d (.iface t d) => match APB P t m with
      | some g => match BJP Γ r (.fn (.func g) [.d d] []) (args.toList.map (AO σ.sl)) σ.H with
        | some x => if US σ.H r then some ⟨x.val, x.upd, x.ids ++ (List.range 16).map (r + ·), x.pre⟩ else none
        | none => none
      | none => none
    | _ => none
  | .pick c a b => match AO σ.sl c with
    | .d (.v (.bool t)) => if isNone (σ.H r) then some ⟨AUT t (BF (AO σ.sl a)) (BF (AO σ.sl b)), [], r :: SE (AO σ.sl) (.pick c a b), []⟩ else none
    | _ => none
  | op => match opA P mt r (AO σ.sl) σ.H op with
    | some e => if isNone (σ.H r) then some ⟨e.val, e.upd, r :: SE (AO σ.sl) op, e.pre⟩ else none
    | none => none
def stepG (P : Program) (Γ : FuncId -> Option Spec) (r : Nat) (σ : AState) (g : Bool) : Op -> Option (AVal × List Nat × List Prop)
  | .call ⟨.value f, args, _⟩ => match BJP Γ r (BF (AO σ.sl f)) (args.toList.map λ x => BF (AO σ.sl x)) σ.H with
    | some ⟨ids, v, [], p⟩ => if US σ.H r then some (v, ids ++ (List.range 16).map (r + ·), XR g p) else none
    | _ => none
  | op => match gopB P r (AO σ.sl) σ.H g op with
    | some (v, p) => if isNone (σ.H r) then some (v, r :: SE (λ x => BF (AO σ.sl x)) op, p) else none
    | none => none
def AVJ (P : Program) (Γ : FuncId -> Option Spec) (mt : Bool) (ops : Array Oper) (r : Nat) (σ : AState) (o : Oper) : Option Stp := match o.guard with
  | none => CUN P Γ mt r σ o.op
  | some (j, want) => match CN ops σ.sl j want with
    | some g => match stepG P Γ r σ g o.op with
      | some (v, touch, p) => some ⟨.opt g v, [], touch, p⟩
      | none => none
    | none => none
theorem UZ {g : Bool} {l : List Prop} (h : g = true -> BC l) : BC (XR g l) := by
  cases l with
  | nil => trivial
  | cons => exact h
theorem vP {op : Op} (h : ∀ c a b, op = .pick c a b -> False) (sl : Nat -> AVal) (o : Oper) (ho : o.op = op) (q : Nat × Bool) (hq : o.guard = some q) : Iu sl o = IY (AO sl) op.operands.toList := by
  unfold Iu
  rw [ho, hq]
  cases op <;> first | rfl | exact (h _ _ _ rfl).elim
def GOk (P : Program) (Γ : FuncId -> Option Spec) : Prop := ∀ g s, Γ g = some s -> AM P g s
theorem En {Γ : FuncId -> Option Spec} (hΓ : GOk P Γ) {r : Nat} {f : AVal} {args : List AVal} {x : CallR} (h : BJP Γ r f args H = some x) : ∃ g first caps, f = .fn (.func g) first caps /\ (BC x.pre -> BWG P g (first ++ args ++ caps) r (x.ids.map λ i => (i, H i)) x.val x.upd) := by
  unfold BJP at h
  split at h
  · rename_i g first caps
    split at h
    · rename_i s hs
      exact ⟨g, first, caps, rfl, hΓ g s hs _ _ _ _ h⟩
    · cases h
  · cases h
theorem Fk (l : List Nat) (H : Heap) : ∀ p ∈ l.map (λ i => (i, H i)), H p.1 = p.2 := λ p hp => by
  obtain ⟨i, _, rfl⟩ := List.mem_map.1 hp; rfl
theorem CGQ {r : Nat} {sl : Nat -> AVal} {g : Bool} {o : Oper} {q : Nat × Bool} {v : AVal} {p : List Prop} (h : gopB P r (AO sl) H g o.op = some (v, p)) (hq : o.guard = some q) (hp : BC p) (ht : g = true -> BC (Iu sl o)) : ∃ p', gopA P r (AO sl) H g o.op = some (v, p') /\ BC p' := by
  unfold gopB at h
  split at h
  · rename_i c a b ho
    split at h
    · rename_i t hc
      cases h
      refine ⟨XR g (NJ True (AO sl c) ++ (NJ (t = true) (AO sl a) ++ NJ (t = false) (AO sl b))), by rw [ho]; simp only [gopA, hc], UZ λ hg => ?_⟩
      have := ht hg
      unfold Iu at this
      rw [ho, hq] at this
      simp only [hc] at this
      exact this
    · cases h
  · rename_i t len ps ho
    split at h
    · rename_i hb
      cases h
      refine ⟨XR g (IY (AO sl) (Op.buildSlice t len ps).operands.toList), by rw [ho]; simp only [gopA, hb], UZ λ hg => ?_⟩
      have := ht hg
      rw [vP (λ _ _ _ h => by cases h) sl o ho _ hq] at this
      exact this
    · cases h
  · rename_i t l c ho
    split at h
    · rename_i v0 r0 k n get p0 hb
      cases h
      refine ⟨XR g (NJ True (AO sl l) ++ (NJ True (AO sl c) ++ p0)), by rw [ho]; simp only [gopA, hb], UZ λ hg => ?_⟩
      have := ht hg
      rw [vP (λ _ _ _ h => by cases h) sl o ho _ hq] at this
      exact EU.2 ⟨PY this l (by simp [Op.operands]), EU.2 ⟨PY this c (by simp [Op.operands]), IG hp hg⟩⟩
    · cases h
  · rename_i h1 h2 h3
    split at h
    · rename_i e1 e2 ho
      cases h
      refine ⟨XR g (IY (AO sl) o.op.operands.toList ++ e2), ?_, UZ λ hg => ?_⟩
      · unfold gopA
        split
        · rename_i c a b hop; exact (h1 c a b hop).elim
        · rename_i t len ps hop; exact (h2 t len ps hop).elim
        · rename_i t l c hop; exact (h3 t l c hop).elim
        · rw [ho]
      · have := ht hg
        rw [vP (λ c a b h => h1 c a b h) sl o rfl _ hq] at this
        exact EU.2 ⟨this, IG hp hg⟩
    · cases h
theorem BWD {Γ : FuncId -> Option Spec} {mt : Bool} {ops : Array Oper} {r : Nat} {o : Oper} {s : Stp} (h : AVJ P Γ mt ops r σ o = some s) (q : Nat × Bool) (hq : o.guard = some q) : ∃ g v, s.val = .opt g v /\ CN ops σ.sl q.1 q.2 = some g := by
  unfold AVJ at h
  rw [hq] at h
  simp only at h
  split at h
  · rename_i g hg
    split at h
    · cases h; exact ⟨g, _, rfl, hg⟩
    · cases h
  · cases h
theorem Qv {Γ : FuncId -> Option Spec} (hΓ : GOk P Γ) {mt : Bool} {ops : Array Oper} {r : Nat} {o : Oper} {s : Stp} (h : AVJ P Γ mt ops r σ o = some s) (hp : BC s.pre) (ht : (∀ q, o.guard = some q -> CN ops σ.sl q.1 q.2 = some true) -> BC (Iu σ.sl o)) : StepO P mt ops r σ o s.val s.upd s.touch := by
  have mp : ∀ (l : List Nat), (l.map λ i => (i, σ.H i)).map (·.1) = l := λ l => by
    induction l with
    | nil => rfl
    | cons a l ih => simp only [List.map_cons, ih]
  have ht' : ∀ {j want g}, o.guard = some (j, want) -> CN ops σ.sl j want = some g -> g = true -> BC (Iu σ.sl o) := λ hg hw hgt => ht λ q hq => by
    rw [hg] at hq; cases hq; rw [hw, hgt]
  unfold AVJ at h
  split at h
  · rename_i hg
    unfold CUN at h
    split at h
    · rename_i f args ats ho
      split at h
      · rename_i x hx
        split at h
        · rename_i hf
          cases h
          obtain ⟨g, first, caps, he, hc⟩ := En hΓ hx
          have := StepO.call (mt := mt) (ops := ops) hg ho he (hc hp) (Fk _ _) (PR hf)
          rw [mp] at this; exact this
        · cases h
      · cases h
    · rename_i y m args ats ho
      split at h
      · rename_i t d hy
        split at h
        · rename_i g0 hm
          split at h
          · rename_i x hx
            split at h
            · rename_i hf
              cases h
              obtain ⟨g, first, caps, he, hc⟩ := En hΓ hx
              cases he
              have hc' := hc hp
              simp only [List.cons_append, List.nil_append, List.append_nil] at hc'
              have := StepO.inv (mt := mt) (ops := ops) hg ho hy hm hc' (Fk _ _) (PR hf)
              rw [mp] at this; exact this
            · cases h
          · cases h
        · cases h
      · cases h
    · rename_i c a b ho
      split at h
      · rename_i t hc
        split at h
        · rename_i hf
          cases h
          have h0 := ht λ q hq => by rw [hg] at hq; cases hq
          have h1 : BC (NJ (t = true) (AO σ.sl a) ++ NJ (t = false) (AO σ.sl b)) := by
            unfold Iu at h0
            rw [ho, hg] at h0
            simp only [hc, BF, NJ, List.nil_append] at h0
            exact h0
          have := StepO.op (P := P) (mt := mt) (ops := ops) (r := r) (σ := σ) (o := o) (e := ⟨AUT t (BF (AO σ.sl a)) (BF (AO σ.sl b)), [], NJ (t = true) (AO σ.sl a) ++ NJ (t = false) (AO σ.sl b)⟩) hg (by rw [ho]; simp only [opA, hc]) h1 (QP hf)
          rw [ho] at this; exact this
        · cases h
      · cases h
    · split at h
      · rename_i e he
        split at h
        · rename_i hf
          cases h
          exact .op hg he hp (QP hf)
        · cases h
      · cases h
  · rename_i j want hg
    split at h
    · rename_i g hw
      split at h
      · rename_i v touch p hst
        cases h
        unfold stepG at hst
        split at hst
        · rename_i f args ats ho
          split at hst
          · rename_i ids v p hx
            split at hst
            · rename_i hf
              cases hst
              obtain ⟨g', first, caps, he, hc⟩ := En hΓ hx
              have := StepO.gcall (mt := mt) (ops := ops) (r := r) hg hw ho he (λ h => by
                have := ht' hg hw h
                rw [vP (λ _ _ _ h => by cases h) σ.sl o ho _ hg] at this
                rw [ho]; exact this) (λ h => hc (IG hp h)) (Fk _ _) (PR hf)
              rw [mp] at this; exact this
            · cases hst
          · cases hst
        · split at hst
          · rename_i v p he
            split at hst
            · rename_i hf
              cases hst
              obtain ⟨p', h1, h2⟩ := CGQ (sl := σ.sl) (o := o) he hg hp (ht' hg hw)
              exact .gop hg hw h1 h2 (QP hf)
            · cases hst
          · cases hst
      · cases h
    · cases h
structure Run where
  st : AState
  pre : List Prop
  tab : List (List Nat × List Nat)
theorem ANQ (sl : Nat -> AVal) (dst : Option Tmp) (v : AVal) (t : Nat) : XU sl dst v t = if dst = some t then v else sl t := by
  cases dst with
  | none => simp [XU]
  | some d =>
    by_cases h : t = d
    · simp [XU, h]
    · simp [XU, h, Ne.symm h]
def tagC (ops : Array Oper) (k : Nat) (σ : AState) (o : Oper) : List Prop := match o.guard with
  | none => CFD ops k σ.sl o
  | some (j, want) => match CN ops σ.sl j want with
    | some g => XR g (CFD ops k σ.sl o)
    | none => []
def AUA (P : Program) (Γ : FuncId -> Option Spec) (mt : Bool) (ops : Array Oper) (base n : Nat) : List Oper -> Nat -> AState -> Option Run
  | [], _, σ => some ⟨σ, [], []⟩
  | o :: l, k, σ => if BXL n o then match AVJ P Γ mt ops (base + 16 * k) σ o with
      | some s => match AUA P Γ mt ops base n l (k + 1) (σ.app o.dst s.val s.upd) with
        | some x => some ⟨x.st, tagC ops k σ o ++ (s.pre ++ x.pre), (s.touch, s.upd.map (·.1)) :: x.tab⟩
        | none => none
      | none => none
    else none
def CEH (l : List (List Nat × List Nat)) : fF := λ k => l.getD k ([], [])
theorem CGS {ops : Array Oper} {k : Nat} {o : Oper} (hI : GInv ops σ.sl k) (hl : lowL ops.toList 0 = true) (ho : ops[k]? = some o) (h : BC (tagC ops k σ o)) (hg : ∀ q, o.guard = some q -> CN ops σ.sl q.1 q.2 = some true) : BC (Iu σ.sl o) := by
  refine CAB hI hl ho hg ?_
  unfold tagC at h
  split at h
  · exact h
  · rename_i j want hq
    have := hg _ hq
    simp only at this
    rw [this] at h
    exact IG h rfl
theorem D8 {Γ : FuncId -> Option Spec} (hΓ : GOk P Γ) {mt : Bool} {ops : Array Oper} {base n : Nat} {K : AState -> Prop} (hl : lowL ops.toList 0 = true) (hd : QG ops.toList = true) : ∀ (l : List Oper) (σ : AState) (x : Run) (T0 : List (List Nat × List Nat)), ops.toList.drop T0.length = l -> GInv ops σ.sl T0.length -> AUA P Γ mt ops base n l T0.length σ = some x -> BC x.pre -> K x.st ->
    LexT P mt ops base n (CEH (T0 ++ x.tab)) K l T0.length σ
  | [], σ, x, T0, _, _, h, _, hK => by simp only [AUA, Option.some.injEq] at h; subst h; exact hK
  | o :: l, σ, x, T0, hdr, hI, h, hp, hK => by
    simp only [AUA] at h
    have ho : ops[T0.length]? = some o := by
      have : (ops.toList.drop T0.length)[0]? = some o := by rw [hdr]; rfl
      simpa using this
    split at h
    · rename_i hdo
      split at h
      · rename_i s hs
        split at h
        · rename_i y hy
          cases h
          obtain ⟨hp0, hp1⟩ := AS hp
          obtain ⟨hp1, hp2⟩ := AS hp1
          have hI' : GInv ops (σ.app o.dst s.val s.upd).sl (T0.length + 1) := hI.next hl hd ho (λ q hq => BWD hs q hq) _ (ANQ _ _ _)
          have ih := D8 hΓ hl hd l _ y (T0 ++ [(s.touch, s.upd.map (·.1))]) (by
            have := congrArg List.tail hdr
            simpa using this) (by simpa using hI') (by simpa using hy) hp2 hK
          have ht : CEH (T0 ++ ((s.touch, s.upd.map (·.1)) :: y.tab)) T0.length = (s.touch, s.upd.map (·.1)) := by simp [CEH]
          refine ⟨s.val, s.upd, s.touch, Qv hΓ hs hp1 (CGS hI hl ho hp0), qM hdo, by rw [ht], by rw [ht], ?_⟩
          simpa using ih
        · cases h
      · cases h
    · cases h
theorem BKP {mt : Bool} {ops : Array Oper} {base n : Nat} {T : fF} {K : AState -> Prop} : ∀ (l : List Oper) (k : Nat) (σ : AState), LexT P mt ops base n T K l k σ -> LexE P mt ops base n K l k σ
  | [], _, _, h => h
  | o :: l, k, σ, h => by
    obtain ⟨val, upd, touch, h1, h2, _, _, h5⟩ := h
    exact ⟨val, upd, touch, h1, h2, BKP l (k + 1) _ h5⟩
def Ic (P : Program) (Γ : FuncId -> Option Spec) (mt : Bool) (base n : Nat) (ops : Array Oper) (draw : Bool) (σ : AState) (K : AState -> Prop) : Prop :=
  match AUA P Γ mt ops base n ops.toList 0 σ with
  | some x => if lowL ops.toList 0 && QG ops.toList && (!draw || lexFromT .any ops (CEH x.tab) ops.size 0 (Array.replicate ops.size false)) then rF x.pre (K x.st) else False
  | none => False
theorem eZ {Γ : FuncId -> Option Spec} (hΓ : GOk P Γ) (hm : P.follows .mixedOrders = true) {mt : Bool} {base : Nat} {id : Nat} {ops : Array Oper} {draw : Bool} (h : Ic P Γ mt base c.n ops draw σ (Q .normal)) : CodeE P c (.region id ops draw) Q σ := by
  unfold Ic at h
  split at h
  · rename_i x hx
    split at h
    · rename_i hc
      simp only [Bool.and_eq_true] at hc
      obtain ⟨⟨hl, hd⟩, h1⟩ := hc
      obtain ⟨h2, h3⟩ := EP h
      have hl := D8 hΓ (K := Q .normal) hl hd ops.toList σ x [] (by simp) (λ i _ _ _ hi => by simp at hi) (by simpa using hx) h2 h3
      simp only [List.nil_append, List.length_nil] at hl
      cases draw with
      | false => exact BZI (BKP _ _ _ hl)
      | true => exact BXT hm (by simpa using h1) hl
    · exact h.elim
  · exact h.elim
end Go.Sym

namespace Go.Sym
variable {P : Program} {B B' : JO} {ι ι' : Nat -> Pl} {H H' : Heap} {D D' : Nat -> Prop} {w w' : World} {c : Ctx} {σ : AState} {Q : Exit -> AState -> Prop}
structure Shape where
  α : Type
  dflt : α
  T : α -> ST
  inv : α -> Prop
  meas : α -> Nat
  first : List (Nat × Nat) := []
  again : List (Nat × Nat) := []
  ffz : List Nat := []
  afz : List Nat := []
  /-- what the annotations within are told, behind the measure -/
  tag : List Nat := []
def Shape.at1 (s : Shape) : List (Nat × Nat) × List Nat := (s.first, s.ffz)
def Shape.at2 (s : Shape) : List (Nat × Nat) × List Nat := (s.again, s.afz)
abbrev Yx := List Shape
def Ke (E : List Nat) (sel : Shape -> List (Nat × Nat) × List Nat) (σ : AState) (K : (s : Shape) -> s.α -> Prop) : List Shape -> Prop
  | [] => False
  | s :: l => if (LD E (sel s).2 (sel s).1 (s.T s.dflt) σ).isSome then ∃ a, CDA (LD E (sel s).2 (sel s).1 (s.T a) σ) (K s a) else Ke E sel σ K l
theorem KH {E : List Nat} {sel : Shape -> List (Nat × Nat) × List Nat} {K : (s : Shape) -> s.α -> Prop} : ∀ {l : List Shape}, Ke E sel σ K l -> ∃ s ∈ l, ∃ a, BX (LD E (sel s).2 (sel s).1 (s.T a) σ) /\ K s a
  | [], h => h.elim
  | s :: l, h => by
    unfold Ke at h
    split at h
    · obtain ⟨a, h⟩ := h
      obtain ⟨h1, h2⟩ := gX h
      exact ⟨s, by simp, a, h1, h2⟩
    · obtain ⟨s', h1, h2⟩ := KH h
      exact ⟨s', by simp [h1], h2⟩
def allS (K : Shape -> Prop) : List Shape -> Prop
  | [] => True
  | [s] => K s
  | s :: l => K s /\ allS K l
theorem Xs {K : Shape -> Prop} : ∀ {l : List Shape}, allS K l -> ∀ s ∈ l, K s
  | [], _, s, h => by cases h
  | [t], h, s, hs => by simp at hs; subst hs; exact h
  | t :: u :: l, h, s, hs => by
    rcases List.mem_cons.1 hs with rfl | hs
    · exact h.1
    · exact Xs (l := u :: l) h.2 s hs
def eW : Code -> Nat
  | .region id _ _ => id
  | .seq a _ => eW a
  | .block _ b => eW b
  | .cond _ t _ => eW t
  | .loop b => eW b
  | .scope b => eW b
  | .rangeFunc _ _ a _ => eW a
  | _ => 0
def CFJ (Q : Exit -> AState -> Prop) : Exit -> AState -> Prop
  | .goto _, _ => False
  | e, σ => Q e σ
mutual
def frV (F : Yd) : AVal -> AVal
  | .own id k i n => match F id with
    | some (k2, _, get) => if Nat.beq k k2 then .d (.list k n (λ j => get (i + j)) false) else .any
    | none => .own id k i n
  | .agg cs => BGW (frL F cs)
  | .tup cs => BJZ (frL F cs)
  | .fn f a b => .fn f (frL F a) (frL F b)
  | .opt g a => .opt g (frV F a)
  | a => a
def frL (F : Yd) : List AVal -> List AVal
  | [] => []
  | a :: r => frV F a :: frL F r
end
mutual
def frC (F : Yd) : AVal -> List Prop
  | .own id _ i n => match F id with
    | some (_, m, _) => [i + n <= m]
    | none => []
  | .agg cs => frCL F cs
  | .tup cs => frCL F cs
  | .fn _ a b => frCL F a ++ frCL F b
  | .opt _ a => frC F a
  | _ => []
def frCL (F : Yd) : List AVal -> List Prop
  | [] => []
  | a :: r => frC F a ++ frCL F r
end
theorem NN (F : Yd) : ∀ l : List AVal, (frL F l).length = l.length
  | [] => rfl
  | a :: l => by simp [frL, NN F l]
theorem CJS (x : Value) : vEq x x := by
  unfold vEq; split <;> simp_all
mutual
theorem NM : ∀ (x : DVal), CH x x
  | .v x => by simp only [CH]; exact CJS x
  | .agg xs => by simp only [CH]; exact pG xs
  | .tup xs => by simp only [CH]; exact pG xs
  | .list k n g e => by simp only [CH]; exact ⟨.inl trivial, trivial, id, λ i _ => NM (g i)⟩
  | .arr k n g => by simp only [CH]; exact ⟨trivial, trivial, λ i _ => NM (g i)⟩
  | .eref x c => by simp only [CH]; exact ⟨trivial, NM x⟩
  | .iface t x => by simp only [CH]; exact ⟨trivial, NM x⟩
  | .anyB => by simp only [CH]
theorem pG : ∀ (l : List DVal), KL l l
  | [] => trivial
  | x :: l => ⟨NM x, pG l⟩
end
mutual
theorem ABV {F : Yd} (hF : Nl B B' ι F) : ∀ (a : AVal) (v : Value), BC (frC F a) -> VRel B ι D a v -> VRel B' ι D (frV F a) v
  | .own id k i n, v, h, hv => by
    simp only [frC] at h
    simp only [frV]
    split
    · rename_i k2 m get hf
      simp only [hf] at h
      split
      · rename_i hk
        have := Nat.eq_of_beq_eq_true hk; subst this
        exact .d (ARR hF hf rfl h (λ j _ => NM _) hv)
      · exact .any
    · exact hv.mono hF.1 λ i hi => ⟨hi, rfl⟩
  | .agg cs, v, h, hv => by
    simp only [frV]
    cases hv with
    | agg hl hr => exact bM (by rw [NN]; exact hl) (IN hF cs _ h hr)
  | .tup cs, v, h, hv => by
    simp only [frV]
    cases hv with
    | tup hl hr => exact BKH (by rw [NN]; exact hl) (IN hF cs _ h hr)
  | .fn f a b, v, h, hv => by
    simp only [frV]
    simp only [frC] at h
    obtain ⟨h1, h2⟩ := AS h
    cases hv with
    | fn h3 h4 h5 h6 => exact .fn (by rw [NN]; exact h3) (by rw [NN]; exact h4) (IN hF a _ h1 h5) (IN hF b _ h2 h6)
  | .opt g a, v, h, hv => by
    simp only [frV]
    cases hv with
    | opt h1 h2 => exact .opt (λ hg => ABV hF a v h (h1 hg)) h2
  | .d x, v, _, hv => by simp only [frV]; exact hv.mono hF.1 λ i hi => ⟨hi, rfl⟩
  | .bptr i c, v, _, hv => by simp only [frV]; exact hv.mono hF.1 λ i hi => ⟨hi, rfl⟩
  | .rptr i k e c, v, _, hv => by simp only [frV]; exact hv.mono hF.1 λ i hi => ⟨hi, rfl⟩
  | .mref i, v, _, hv => by simp only [frV]; exact hv.mono hF.1 λ i hi => ⟨hi, rfl⟩
  | .any, v, _, _ => by simp only [frV]; exact .any
theorem IN {F : Yd} (hF : Nl B B' ι F) : ∀ (l : List AVal) (ys : Array Value), BC (frCL F l) -> (∀ (j : Nat) (x : AVal) (y : Value), l[j]? = some x -> ys[j]? = some y -> VRel B ι D x y) ->
    ∀ (j : Nat) (x : AVal) (y : Value), (frL F l)[j]? = some x -> ys[j]? = some y -> VRel B' ι D x y
  | [], ys, _, _, j, x, y, hx, _ => by simp [frL] at hx
  | a :: l, ys, h, hr, j, x, y, hx, hy => by
    obtain ⟨h1, h2⟩ := AS (by simpa only [frCL] using h)
    cases j with
    | zero =>
      simp only [frL, List.getElem?_cons_zero, Option.some.injEq] at hx
      subst hx
      exact ABV hF a y h1 (hr 0 a y rfl hy)
    | succ j =>
      simp only [frL, List.getElem?_cons_succ] at hx
      exact IN hF l (ys.extract 1 ys.size) h2 (λ i x y hx hy => hr (i + 1) x y (by simpa using hx) (by
        rw [Array.getElem?_extract] at hy
        split at hy
        · rw [Nat.add_comm]; exact hy
        · cases hy)) j x y hx (by
        have hlt := (Array.getElem?_eq_some_iff.1 hy).1
        rw [Array.getElem?_extract, if_pos (by omega), Nat.add_comm]; exact hy)
end
mutual
theorem VRel.keep {p : Nat -> Bool} (hp : ∀ i, p i = true -> D' i /\ ι' i = ι i) : ∀ (a : AVal) (v : Value), OS p a = true -> VRel B ι D a v -> VRel B ι' D' a v
  | .d x, v, _, hv => .d hv.d_inv
  | .agg cs, v, h, hv => by
    cases hv with
    | agg hl hr => exact .agg hl λ j x y hx hy => VRel.keepL hp cs (by simpa only [OS] using h) j x y hx (hr j x y hx hy)
  | .tup cs, v, h, hv => by
    cases hv with
    | tup hl hr => exact .tup hl λ j x y hx hy => VRel.keepL hp cs (by simpa only [OS] using h) j x y hx (hr j x y hx hy)
  | .bptr i c, v, h, hv => by cases hv; rw [<- (hp i (by simpa only [OS] using h)).2]; exact .bptr (hp i (by simpa only [OS] using h)).1
  | .rptr i k e c, v, h, hv => by cases hv; rw [<- (hp i (by simpa only [OS] using h)).2]; exact .rptr (hp i (by simpa only [OS] using h)).1
  | .own i k e n, v, h, hv => by
    cases hv with
    | own _ h1 h2 => rw [<- (hp i (by simpa only [OS] using h)).2] at h2 ⊢; exact .own (hp i (by simpa only [OS] using h)).1 h1 h2
  | .fn f a b, v, h, hv => by
    simp only [OS, Bool.and_eq_true] at h
    cases hv with
    | fn h1 h2 h3 h4 => exact .fn h1 h2 (λ j x y hx hy => VRel.keepL hp a h.1 j x y hx (h3 j x y hx hy)) λ j x y hx hy => VRel.keepL hp b h.2 j x y hx (h4 j x y hx hy)
  | .mref i, v, h, hv => by cases hv; rw [<- (hp i (by simpa only [OS] using h)).2]; exact .mref (hp i (by simpa only [OS] using h)).1
  | .any, v, _, _ => .any
  | .opt g a, v, h, hv => by
    cases hv with
    | opt h1 h2 => exact .opt (λ hg => VRel.keep hp a v (by simpa only [OS] using h) (h1 hg)) h2
theorem VRel.keepL {p : Nat -> Bool} (hp : ∀ i, p i = true -> D' i /\ ι' i = ι i) : ∀ (l : List AVal), okL p l = true -> ∀ (j : Nat) (x : AVal) (v : Value), l[j]? = some x -> VRel B ι D x v -> VRel B ι' D' x v
  | [], _, j, x, v, hx, _ => by simp at hx
  | a :: l, h, 0, x, v, hx, hv => by simp at hx; subst hx; simp only [okL, Bool.and_eq_true] at h; exact VRel.keep hp a v h.1 hv
  | a :: l, h, j + 1, x, v, hx, hv => by simp only [okL, Bool.and_eq_true] at h; exact VRel.keepL hp l h.2 j x v (by simpa using hx) hv
end
structure Pack where
  sl : List Nat
  ids : List Nat
  fz : List Nat := []
def PG (F : Yd) : HCell -> HCell
  | .live (.box es) => .live (.box (frL F es))
  | .live (.abox es m g) => .live (.abox (frL F es) m g)
  | x => x
def CRC (F : Yd) : HCell -> List Prop
  | .live (.box es) => frCL F es
  | .live (.abox es _ _) => frCL F es
  | _ => []
def BFV (p : Nat -> Bool) : HCell -> Bool
  | .live o => okO p o
  | .dead => true
  | .none => false
def HB (p : Pack) (σ : AState) : ST :=
  ⟨p.sl.map λ t => (t, frV (EI σ.H p.fz) (σ.sl t)), p.ids.map λ i => (i, PG (EI σ.H p.fz) (BS σ.H p.fz i))⟩
def CEF (p : Pack) (σ : AState) : List Prop := (p.sl.flatMap λ t => frC (EI σ.H p.fz) (σ.sl t)) ++ p.ids.flatMap λ i => CRC (EI σ.H p.fz) (BS σ.H p.fz i)
def AVO (p : Pack) (E : List Nat) (s : ST) : Bool :=
  s.sl.all (λ x => OS (λ i => p.ids.contains i) x.2) && s.H.all (λ x => BFV (λ i => p.ids.contains i) x.2) && E.all (λ i => p.ids.contains i) && nodup p.ids
def fD (o : Option Pack) (E : List Nat) (σ : AState) (K : AState -> Prop) : Prop := match o with
  | none => K σ
  | some p => if AVO p E (HB p σ) then rF (CEF p σ) (K (HB p σ).st) else False
theorem PT {α : Type} {f : α -> List Prop} : ∀ {l : List α}, BC (l.flatMap f) -> ∀ x ∈ l, BC (f x)
  | [], _, x, hx => by cases hx
  | a :: l, h, x, hx => by
    rw [List.flatMap_cons] at h
    obtain ⟨h1, h2⟩ := AS h
    rcases List.mem_cons.1 hx with rfl | hx
    · exact h1
    · exact PT h2 x hx
theorem Le (f : Nat -> AVal) : ∀ (l : List Nat) (t : Nat), DH (l.map λ t => (t, f t)) t = .any ∨ (t ∈ l /\ DH (l.map λ t => (t, f t)) t = f t)
  | [], t => .inl rfl
  | a :: l, t => by
    simp only [List.map_cons, DH]
    split
    · rename_i h; subst h; exact .inr ⟨by simp, rfl⟩
    · rcases Le f l t with h | ⟨h1, h2⟩
      · exact .inl h
      · exact .inr ⟨by simp [h1], h2⟩
theorem BWC (f : Nat -> HCell) : ∀ (l : List Nat) (i : Nat), IU (l.map λ i => (i, f i)) i = if l.contains i then some (f i) else none
  | [], i => rfl
  | a :: l, i => by
    simp only [List.map_cons, IU, BWC f l, List.contains_cons]
    by_cases h : i = a
    · subst h; simp
    · have : (i == a) = false := by simpa using h
      rw [if_neg h, this]; simp
theorem Moved.pack {B0 : JO} {ι0 : Nat -> Pl} {H0 : Heap} {w0 : World} {p : Pack} {E : List Nat} (hE : ∀ i, H0.dom i -> i ∈ E) (hok : AVO p E (HB p σ) = true) (hc : BC (CEF p σ)) (hm0 : Moved B0 ι0 H0 w0 B ι σ.H w) :
    ∃ B', Moved B0 ι0 H0 w0 B' ι (HB p σ).st.H w /\ (∀ t v, VRel B ι σ.H.dom (σ.sl t) v -> VRel B' ι (HB p σ).st.H.dom ((HB p σ).st.sl t) v) /\ (∀ i o, (HB p σ).st.H i = .live o -> ∃ o', σ.H i = .live o') /\
      (∀ b c, B b = some c -> B' b = some c) /\ ∀ i ∈ E, (HB p σ).st.H.dom i := by
  simp only [AVO, Bool.and_eq_true, List.all_eq_true] at hok
  obtain ⟨⟨⟨o1, o2⟩, o3⟩, o4⟩ := hok
  obtain ⟨c1, c2⟩ := AS hc
  obtain ⟨B', hk, hF⟩ := GH p.fz hm0.heap
  have hm := hm0.trans hk
  have hcell : ∀ i ∈ p.ids, BFV (λ i => p.ids.contains i) (PG (EI σ.H p.fz) (BS σ.H p.fz i)) = true := λ i hi => o2 _ (List.mem_map.2 ⟨i, hi, rfl⟩)
  have hH : ∀ i, (HB p σ).st.H i = if p.ids.contains i then PG (EI σ.H p.fz) (BS σ.H p.fz i) else .none := λ i => by
    show (IU _ i).getD .none = _
    rw [HB, BWC]; split <;> rfl
  have hdom : ∀ i, p.ids.contains i = true -> (HB p σ).st.H.dom i /\ ι i = ι i := λ i hi => by
    refine ⟨?_, rfl⟩
    unfold Heap.dom
    rw [hH, if_pos hi]
    have := hcell i (by simpa using hi)
    intro he; rw [he] at this; cases this
  have live : ∀ i o, (HB p σ).st.H i = .live o -> ∃ o', i ∈ p.ids /\ BS σ.H p.fz i = .live o' /\ PG (EI σ.H p.fz) (.live o') = .live o := λ i o hi => by
    rw [hH] at hi
    split at hi
    · rename_i hc
      cases hq : BS σ.H p.fz i with
      | live o' => rw [hq] at hi; exact ⟨o', by simpa using hc, rfl, hi⟩
      | none => rw [hq] at hi; cases hi
      | dead => rw [hq] at hi; cases hi
    · cases hi
  refine ⟨B', ?_, λ t v hv => ?_, λ i o hi => by obtain ⟨o', _, ho, _⟩ := live i o hi; exact ⟨o', LX p.fz ho⟩, hF.1, λ i hi => (hdom i (o3 i hi)).1⟩
  · refine ⟨hm.bm, hm.bn, λ i hi => ?_, ⟨λ i o hi => ?_, λ i j o o' hi hj hij => ?_, λ i o hi => ?_, hm.heap.imm⟩, λ i o hi => ?_, hm.frame, hm.size, hm.calm⟩
    · exact ⟨(hdom i (o3 i (hE i hi))).1, (hm.im i hi).2⟩
    · obtain ⟨o', hid, ho, he⟩ := live i o hi
      have h1 := hm0.heap.obj _ _ (LX p.fz ho)
      generalize w.heap[(ι i).b]? = q at h1 ⊢
      have hok := hcell i hid
      rw [ho] at hok
      cases o' with
      | box es =>
        simp only [PG, HCell.live.injEq] at he
        subst he
        have h2 := PT c2 i hid
        rw [ho] at h2
        cases h1 with
        | box hsz hr =>
          refine .box (by rw [NN]; exact hsz) λ j x z hx hz => ?_
          exact VRel.keepL hdom _ (by simpa only [BFV, PG, okO] using hok) j x z hx (IN hF es _ h2 hr j x z hx hz)
      | row k n g =>
        simp only [PG, HCell.live.injEq] at he
        subst he
        cases h1 with
        | row a b cc d => exact .row a b cc λ i j x y hi hx hy => (d i j x y hi hx hy).mono hF.1
      | imap q z hs g st pend =>
        simp only [PG, HCell.live.injEq] at he
        subst he
        cases h1 with
        | imap a => exact .imap (a.mono hF.1)
      | abox es m g =>
        simp only [PG, HCell.live.injEq] at he
        subst he
        have h2 := PT c2 i hid
        rw [ho] at h2
        cases h1 with
        | abox hsz hr hb =>
          refine .abox (by rw [NN]; exact hsz) (λ j x z hx hz => ?_) (by rw [NN]; exact hb)
          exact VRel.keepL hdom _ (by simpa only [BFV, PG, okO] using hok) j x z hx (IN hF es _ h2 hr j x z hx hz)
      | miter m a b c d =>
        simp only [PG, HCell.live.injEq] at he
        subst he
        cases h1 with
        | miter hD h1 h2 h3 h4 h5 => exact .miter (hdom m (by simpa only [BFV, PG, okO] using hok)).1 h1 h2 h3 h4 h5
    · obtain ⟨_, _, h1, _⟩ := live i o hi
      obtain ⟨_, _, h2, _⟩ := live j o' hj
      exact hm.heap.inj _ _ _ _ h1 h2 hij
    · obtain ⟨_, _, h1, _⟩ := live i o hi
      exact hm.heap.sep _ _ h1
    · obtain ⟨_, _, h1, _⟩ := live i o hi
      exact hm.own _ _ h1
  · rcases Le (λ t => frV (EI σ.H p.fz) (σ.sl t)) p.sl t with h | ⟨h1, h2⟩
    · show VRel _ _ _ (DH _ t) _
      rw [HB, h]; exact .any
    · show VRel _ _ _ (DH _ t) _
      rw [HB, h2]
      exact VRel.keep hdom _ _ (o1 _ (List.mem_map.2 ⟨t, h1, rfl⟩)) (ABV hF _ _ (PT c1 t h1) hv)
theorem Rel.pack {p : Pack} {E : List Nat} {a : Act} (hE : ∀ i, c.H0.dom i -> i ∈ E) (hok : AVO p E (HB p σ) = true) (hc : BC (CEF p σ)) (hR : Rel c B ι σ a w) : ∃ B', Rel c B' ι (HB p σ).st a w := by
  obtain ⟨B', h1, h2, h3, _⟩ := Moved.pack hE hok hc hR.mv
  obtain ⟨Ds, d1, d0, d2, d3⟩ := hR.defers
  refine ⟨B', λ t => h2 t _ (hR.slots t), hR.size, ⟨Ds, d1, d0, d2, λ D hD => ⟨(d3 D hD).1, (d3 D hD).2.here, λ i o hi => ?_⟩⟩, h1⟩
  obtain ⟨o', ho⟩ := h3 i o hi
  exact (d3 D hD).2.sep _ _ ho
theorem CodeE.noGoto {x : Code} (h : CodeE P c x (CFJ Q) σ) : CodeE P c (.scope x) Q σ := by
  intro B ι a w hR
  refine eR (Code.wpIn_mono (λ e a w hq => ?_) (h B ι a w hR))
  obtain ⟨B', ι', σ', hq, hR'⟩ := hq
  cases e with
  | goto l => exact hq.elim
  | _ => exact ⟨B', ι', σ', hq, hR'⟩
theorem CFU {l : List Prop} {K K' : Prop} (hK : K -> K') (h : rF l K) : rF l K' := by
  cases l with
  | nil => exact hK h
  | cons => exact ⟨h.1, hK h.2⟩
theorem wP {Γ : FuncId -> Option Spec} {mt : Bool} {base n : Nat} {ops : Array Oper} {draw : Bool} {K K' : AState -> Prop} (hK : ∀ σ, K σ -> K' σ) (h : Ic P Γ mt base n ops draw σ K) : Ic P Γ mt base n ops draw σ K' := by
  unfold Ic at *
  split at h
  · split at h
    · rename_i hc; rw [if_pos hc]; exact CFU (hK _) h
    · exact h.elim
  · exact h
end Go.Sym

namespace Go.Sym
variable {P : Program} {B B' : JO} {ι ι' : Nat -> Pl} {H H' : Heap} {D D' : Nat -> Prop} {w w' : World} {c : Ctx} {σ σ' : AState}
structure AnnI where
  base : Nat -> Nat
  mt : Nat -> Bool := λ _ => false
  Γ : FuncId -> Option Spec
  loops : Nat -> Option Yx := λ _ => none
  /-- the same, by the measures of the loops around, from the inmost one -/
  inner : List Nat -> Nat -> Option Yx := λ _ _ => none
  pack : Nat -> Option Pack := λ _ => none
  E : List Nat
  n : Nat
def AnnI.loopAt (A : AnnI) (gs : List Nat) (k : Nat) : Option Yx := match A.inner gs k with
  | some L => some L
  | none => A.loops k
structure Susp where
  c : Ctx
  sl1 : Nat -> AVal
  tmps : Array Value
  Ds : List Nat
  l : Nat
  lp : LoopState -> Option Code -> Loop
def UE : Exit -> Code
  | .exit id => .exit id
  | _ => .ret
def stOf : Option Exit -> LoopState
  | none => .ready
  | some _ => .done
structure BaseI (S : Susp) (m : Option Exit) (B : JO) (ι : Nat -> Pl) (H : Heap) (w : World) : Prop where
  mv : Moved S.c.B0 S.c.ι0 S.c.H0 S.c.w0 B ι H w
  susp : ∀ t, VRel B ι H.dom (S.sl1 t) (S.tmps.getD t undef)
  marks : ∀ D ∈ S.Ds, S.c.w0.heap.size <= D /\ Quiet D (.deferred (some [])) ι H w
  lge : S.c.w0.heap.size <= S.l
  lp : Quiet S.l (.loop (S.lp (stOf m) (m.map UE))) ι H w
theorem BaseI.moved {S : Susp} {m : Option Exit} (h : BaseI S m B ι H w) (hm : Moved B ι H w B' ι' H' w') : BaseI S m B' ι' H' w' :=
  ⟨h.mv.trans hm, λ t => hm.vrel (h.susp t), λ D hD => ⟨(h.marks D hD).1, (h.marks D hD).2.moved hm⟩, h.lge, h.lp.moved hm⟩
theorem BaseI.put {S : Susp} {m m' : Option Exit} (h : BaseI S m B ι H w) (h' : w' = w.putObj S.l (.loop (S.lp (stOf m') (m'.map UE)))) : BaseI S m' B ι H w' := by
  subst h'
  refine ⟨h.mv.put h.lp (λ _ _ _ h => by cases h) h.lge _, h.susp, λ D hD => ⟨(h.marks D hD).1, (h.marks D hD).2.put_other λ he => ?_⟩, h.lge, h.lp.put_same _⟩
  have h1 := (h.marks D hD).2.here
  rw [<- he, h.lp.here] at h1
  cases h1
structure RelI (S : Susp) (n : Nat) (m : Option Exit) (B : JO) (ι : Nat -> Pl) (σ : AState) (a : Act) (w : World) : Prop where
  slots : ∀ t, VRel B ι σ.H.dom (σ.sl t) (a.tmps.getD t undef)
  size : a.tmps.size = n
  nodef : a.defers = []
  base : BaseI S m B ι σ.H w
theorem RelI.tmp {S : Susp} {n : Nat} {m : Option Exit} {a : Act} (h : RelI S n m B ι σ a w) : Rel ⟨B, ι, σ.H, w, n, none, false⟩ B ι σ a w :=
  ⟨h.slots, h.size, ⟨[], h.nodef, λ _ => rfl, List.nodup_nil, λ D hD => by cases hD⟩, Moved.refl h.base.mv.heap⟩
theorem RelI.of {S : Susp} {n : Nat} {m : Option Exit} {a a' : Act} (h : RelI S n m B ι σ a w) (h' : Rel ⟨B, ι, σ.H, w, n, none, false⟩ B' ι' σ' a' w') : RelI S n m B' ι' σ' a' w' := by
  obtain ⟨Ds, h1, h2, _⟩ := h'.defers
  rw [h2 rfl] at h1
  exact ⟨h'.slots, h'.size, h1, h.base.moved h'.mv⟩
def CodeI (P : Program) (S : Susp) (n : Nat) (code : Code) (Q : Exit -> Option Exit -> AState -> Prop) (m : Option Exit) (σ : AState) : Prop :=
  ∀ B ι a w, RelI S n m B ι σ a w -> code.wpIn (fG none) 0 P (λ e a' w' => ∃ B' ι' m' σ', Q e m' σ' /\ RelI S n m' B' ι' σ' a' w') a w
section
variable {S : Susp} {n : Nat} {m : Option Exit} {Q Q' : Exit -> Option Exit -> AState -> Prop}
theorem CodeI.mono {code : Code} (h : CodeI P S n code Q m σ) (hq : ∀ e m σ, Q e m σ -> Q' e m σ) : CodeI P S n code Q' m σ :=
  λ B ι a w hR => wpIn_mono (h B ι a w hR) λ _ _ _ ⟨B', ι', m', σ', hQ, hR'⟩ => ⟨B', ι', m', σ', hq _ _ _ hQ, hR'⟩
theorem CodeI.of {code : Code} {Q1 : Exit -> AState -> Prop} (h : ∀ c : Ctx, c.n = n -> c.rd = none -> c.H0 = σ.H -> CodeE P c code Q1 σ) (hq : ∀ e σ', Q1 e σ' -> Q e m σ') : CodeI P S n code Q m σ :=
  λ B ι a w hR => wpIn_mono (h ⟨B, ι, σ.H, w, n, none, false⟩ rfl rfl rfl B ι a w hR.tmp) λ _ _ _ ⟨B', ι', σ', hQ, hR'⟩ => ⟨B', ι', m, σ', hq _ _ hQ, hR.of hR'⟩
def BVZ (K : Option Exit -> AState -> Prop) (Q : Exit -> Option Exit -> AState -> Prop) : Exit -> Option Exit -> AState -> Prop
  | .normal, m, σ => K m σ
  | e, m, σ => Q e m σ
def BZY (id : Nat) (Q : Exit -> Option Exit -> AState -> Prop) : Exit -> Option Exit -> AState -> Prop
  | .exit id', m, σ => if id' = id then Q .normal m σ else Q (.exit id') m σ
  | e, m, σ => Q e m σ
theorem CodeI.seq {x y : Code} (h : CodeI P S n x (BVZ (CodeI P S n y Q) Q) m σ) : CodeI P S n (.seq x y) Q m σ := by
  intro B ι a w hR
  refine wpIn_seq (wpIn_mono (h B ι a w hR) λ e a w hq => ?_)
  obtain ⟨B', ι', m', σ', hq, hR'⟩ := hq
  cases e with
  | normal => exact hq B' ι' a w hR'
  | _ => exact ⟨B', ι', m', σ', hq, hR'⟩
theorem CodeI.cond {x : Operand} {t e : Code} {b : Bool} (hx : AO σ.sl x = .bool b) (ht : b = true -> CodeI P S n t Q m σ) (he : b = false -> CodeI P S n e Q m σ) : CodeI P S n (.cond x t e) Q m σ := by
  intro B ι a w hR
  have hv := CT hR.slots x
  rw [hx] at hv
  exact wpIn_cond_split hv.d_inv.v_inv (λ h => ht h B ι a w hR) (λ h => he h B ι a w hR)
theorem CodeI.block {id : Nat} {x : Code} (h : CodeI P S n x (BZY id Q) m σ) : CodeI P S n (.block id x) Q m σ := by
  intro B ι a w hR
  refine wpIn_block (wpIn_mono (h B ι a w hR) λ e a w hq => ?_)
  obtain ⟨B', ι', m', σ', hq, hR'⟩ := hq
  cases e with
  | exit id' =>
    simp only [BZY] at hq
    simp only [Exit.inBlock]
    split
    · rename_i he; rw [if_pos he] at hq; exact ⟨B', ι', m', σ', hq, hR'⟩
    · rename_i he; rw [if_neg he] at hq; exact ⟨B', ι', m', σ', hq, hR'⟩
  | _ => exact ⟨B', ι', m', σ', hq, hR'⟩
theorem CodeI.loop {x : Code} (I : Nat -> AState -> Prop) (k : Nat) (h0 : I k σ) (round : ∀ k σ, I k σ -> CodeI P S n x (BVZ (λ m' σ' => m' = none /\ ∃ j, j < k /\ I j σ') Q) none σ) : CodeI P S n (.loop x) Q none σ := by
  intro B ι a w hR
  refine wpIn_loop_ghost (λ k a w => ∃ B ι σ, I k σ /\ RelI S n none B ι σ a w) k ⟨B, ι, σ, h0, hR⟩ ?_
  rintro k a w ⟨B, ι, σ, hI, hR⟩
  refine wpIn_mono (round k σ hI B ι a w hR) λ e a w hq => ?_
  obtain ⟨B', ι', m', σ', hq, hR'⟩ := hq
  cases e with
  | normal => obtain ⟨rfl, j, hj, hI⟩ := hq; exact ⟨j, hj, B', ι', σ', hI, hR'⟩
  | _ => exact ⟨B', ι', m', σ', hq, hR'⟩
variable {E : List Nat}
theorem BaseI.keep {p : Nat -> Bool} (hS : ∀ t, OS p (S.sl1 t) = true) (h : BaseI S m B ι H w) (hB : ∀ b c, B b = some c -> B' b = some c) (hm : Moved S.c.B0 S.c.ι0 S.c.H0 S.c.w0 B' ι' H' w) (hp : ∀ i, p i = true -> H'.dom i /\ ι' i = ι i)
    (hl : ∀ i o, H' i = .live o -> ∃ j o', (ι' i).b = (ι j).b /\ H j = .live o') : BaseI S m B' ι' H' w := by
  have q : ∀ {b x}, Quiet b x ι H w -> Quiet b x ι' H' w := λ hq => ⟨hq.here, λ i o hi => by obtain ⟨j, o', h1, h2⟩ := hl i o hi; rw [h1]; exact hq.sep _ _ h2⟩
  exact ⟨hm, λ t => VRel.keep (ι := ι) (D := H.dom) hp _ _ (hS t) ((h.susp t).mono hB λ i hi => ⟨hi, rfl⟩), λ D hD => ⟨(h.marks D hD).1, q (h.marks D hD).2⟩, h.lge, q h.lp⟩
theorem RelI.subF {fz : List Nat} {l : List (Nat × Nat)} {s : ST} {a : Act} (hE : ∀ i, S.c.H0.dom i -> i ∈ E) (hS : ∀ t, OS (λ i => E.contains i) (S.sl1 t) = true) (h : BX (LD E fz l s σ)) (hR : RelI S n m B ι σ a w) :
    ∃ B', RelI S n m B' (λ i => ι (DO l i)) s.st a w := by
  obtain ⟨B', h1, h2, h3, h4, h5⟩ := Moved.subF hE h hR.base.mv
  exact ⟨B', λ t => h2 t _ (hR.slots t), hR.size, hR.nodef, hR.base.keep hS h4 h1 (λ i hi => by
    obtain ⟨h6, h7⟩ := h5 i (by simpa using hi)
    exact ⟨h6, by show ι (DO l i) = ι i; rw [h7]⟩) λ i o hi => by obtain ⟨o', ho⟩ := h3 i o hi; exact ⟨_, o', rfl, ho⟩⟩
theorem RelI.pack {p : Pack} {a : Act} (hE : ∀ i, S.c.H0.dom i -> i ∈ E) (hS : ∀ t, OS (λ i => E.contains i) (S.sl1 t) = true) (hok : AVO p E (HB p σ) = true) (hc : BC (CEF p σ)) (hR : RelI S n m B ι σ a w) :
    ∃ B', RelI S n m B' ι (HB p σ).st a w := by
  obtain ⟨B', h1, h2, h3, h4, h5⟩ := Moved.pack hE hok hc hR.base.mv
  exact ⟨B', λ t => h2 t _ (hR.slots t), hR.size, hR.nodef, hR.base.keep hS h4 h1 (λ i hi => ⟨h5 i (by simpa using hi), rfl⟩) λ i o hi => by obtain ⟨o', ho⟩ := h3 i o hi; exact ⟨i, o', rfl, ho⟩⟩
abbrev YK := List AVal -> Heap -> (Heap -> Prop) -> (Exit -> Heap -> Prop) -> Prop
def cE (P : Program) (S : Susp) (yk : YK) : Prop := ∀ (as : List AVal) (H : Heap) (kn : Heap -> Prop) (ks : Exit -> Heap -> Prop), yk as H kn ks -> ∀ (B : JO) (ι : Nat -> Pl) (w : World) (vs : Array Value), NU B ι H.dom as vs -> BaseI S none B ι H w ->
  ∃ f tmps assign body, (Instr.yield S.l vs).run P w = .ok (.round S.l f tmps assign body) w /\ RoundIn (fG none) 0 P S.l f tmps assign body w λ e w' =>
    ∃ B' ι' H', (∀ a y, VRel B ι H.dom a y -> VRel B' ι' H'.dom a y) /\ ((e = .returned (.bool true) /\ kn H' /\ BaseI S none B' ι' H' w') ∨ ∃ x, e = .returned (.bool false) /\ ks x H' /\ BaseI S (some x) B' ι' H' w')
def APR (ops : Array Oper) (sl : Nat -> AVal) (j : Nat) (want : Bool) : Option Bool := match (ops[j]?).bind (·.dst) with
  | some t => match sl t with
    | .d (.v (.bool b)) => some (if want then b else !b)
    | .d (.v (.tuple _)) => some false
    | _ => none
  | none => none
theorem BQK {ops : Array Oper} {sl : Nat -> AVal} {o : Oper} {j : Nat} {want g : Bool} {a : Act} (hg : o.guard = some (j, want)) (h : APR ops sl j want = some g) (hs : ∀ t, VRel B ι D (sl t) (a.tmps.getD t undef)) :
    Region.wanted o (yielded ops a.tmps) = g := by
  unfold APR at h
  simp only [Region.wanted, hg]
  split at h
  · rename_i t ht
    have hv := hs t
    have hget : a.tmps.getD t undef = (a.tmps[t]?).getD undef := by simp
    split at h
    · rename_i b hb
      cases h
      rw [hb] at hv
      rw [(AXB (a := a) ht).1 _ hv.d_inv.v_inv]
      cases want <;> cases b <;> rfl
    · rename_i x hb
      cases h
      rw [hb] at hv
      have h1 := hv.d_inv.v_inv
      have : yielded ops a.tmps j = none := by
        simp only [yielded, ht, Option.bind_some]
        rw [hget] at h1
        cases hq : a.tmps[t]? with
        | none => rfl
        | some y => rw [hq] at h1; simp at h1; subst h1; rfl
      rw [this]; rfl
    · cases h
  · cases h
def BXI (P : Program) (A : AnnI) (l : Nat) (yk : YK) (mt : Bool) (r : Nat) (o : Oper) (K : Option Exit -> AState -> Prop) (m : Option Exit) (σ : AState) : Prop := match o.op with
  | .call ⟨.value f, args, _⟩ => match AO σ.sl f with
    | .fn (.yield l') [] [] => match m with
      | none => rF [l' = l] (yk (args.toList.map (AO σ.sl)) σ.H (λ H' => K none ⟨XU σ.sl o.dst (.bool true), H'⟩) (λ e H' => K (some e) ⟨XU σ.sl o.dst (.bool false), H'⟩))
      | some _ => False
    | fv => match BJP A.Γ r fv (args.toList.map (AO σ.sl)) σ.H with
      | some x => if US σ.H r then rF x.pre (K m (σ.app o.dst x.val x.upd)) else False
      | none => False
  | op => match opA P mt r (AO σ.sl) σ.H op with
    | some e => if isNone (σ.H r) then rF e.pre (K m (σ.app o.dst e.val e.upd)) else False
    | none => False
def refG (ops : Array Oper) (sl : Nat -> AVal) (j : Nat) (b : Bool) : Nat -> AVal := match (ops[j]?).bind (·.dst) with
  | some t => match sl t with
    | .d (.v (.bool _)) => XU sl (some t) (.bool b)
    | _ => sl
  | none => sl
theorem CHT {ops : Array Oper} {sl : Nat -> AVal} {j : Nat} {want g : Bool} (h : APR ops sl j want = some g) (t' : Nat) {v : Value} (hv : VRel B ι D (sl t') v) : VRel B ι D (refG ops sl j (if g then want else !want) t') v := by
  unfold APR at h
  unfold refG
  split at h
  · rename_i t ht
    simp only [ht]
    split at h
    · rename_i b hb
      cases h
      simp only [hb]
      have e : (if (if want = true then b else !b) = true then want else !want) = b := by cases want <;> cases b <;> rfl
      rw [e]
      by_cases he : t' = t
      · subst he
        rw [hb] at hv
        simpa [XU] using hv
      · simpa [XU, he] using hv
    · rename_i x hb
      simp only [hb]; exact hv
    · cases h
  · cases h
theorem CIT {b : Bool} {p q : Prop} : (bif b then p else q) = ((b = true -> p) /\ (b = false -> q)) := by cases b <;> simp
def runK (P : Program) (A : AnnI) (l : Nat) (yk : YK) (mt : Bool) (base : Nat) (ops : Array Oper) (K : Option Exit -> AState -> Prop) : List Oper -> Nat -> Option Exit -> AState -> Prop
  | [], _, m, σ => K m σ
  | o :: rest, k, m, σ => if BXL A.n o then match o.guard with
      | none => BXI P A l yk mt (base + 16 * k) o (runK P A l yk mt base ops K rest (k + 1)) m σ
      | some (j, want) => match APR ops σ.sl j want with
        | some g => bif g then BXI P A l yk mt (base + 16 * k) o (runK P A l yk mt base ops K rest (k + 1)) m ⟨refG ops σ.sl j want, σ.H⟩ else runK P A l yk mt base ops K rest (k + 1) m (AState.app ⟨refG ops σ.sl j (!want), σ.H⟩ o.dst (.d (.v undef)) [])
        | none => False
    else False
theorem StepO.bare {ops : Array Oper} {mt : Bool} {r : Nat} {o : Oper} {val : AVal} {upd : List (Nat × HCell)} {touch : List Nat} (h : StepO P mt ops r σ { o with guard := none } val upd touch) {a : Act} (hR : RelI S n m B ι σ a w)
    (hdst : ∀ d, o.dst = some d -> d < n) {K : Act -> World -> Prop} {Q : Exit -> Act -> World -> Prop} (hK : ∀ B' ι' a' w', RelI S n m B' ι' (σ.app o.dst val upd) a' w' -> K a' w') : o.wpIn (fG none) 0 P a w K Q := by
  have := h.sound (Q := Q) hR.tmp hdst (K := K) λ B' ι' a' w' hR' => hK B' ι' a' w' (hR.of hR')
  simp only [Region.wanted, if_true] at this
  exact this
theorem BYE {A : AnnI} (hΓ : GOk P A.Γ) {yk : YK} (hy : cE P S yk) {mt : Bool} {r : Nat} {o : Oper} {K : Option Exit -> AState -> Prop} (h : BXI P A S.l yk mt r o K m σ) (hdst : ∀ d, o.dst = some d -> d < n)
    {a : Act} (hR : RelI S n m B ι σ a w) {KW : Act -> World -> Prop} {Q : Exit -> Act -> World -> Prop} (hK : ∀ B' ι' m' σ' a' w', K m' σ' -> RelI S n m' B' ι' σ' a' w' -> KW a' w') : o.wpIn (fG none) 0 P a w KW Q := by
  unfold BXI at h
  split at h
  · rename_i f args ats ho
    split at h
    · rename_i l' hf
      split at h
      · obtain ⟨h1, h2⟩ := EP h
        have h1 : l' = S.l := h1
        subst h1
        have hfv := CT hR.slots f
        rw [hf] at hfv
        have hfe : a.eval f = .func (.yield S.l) #[] #[] := by
          generalize a.eval f = v at hfv
          cases hfv with
          | fn hx hy h1 h2 =>
            rename_i xs ys
            have e1 : xs = #[] := by simpa using hx
            have e2 : ys = #[] := by simpa using hy
            subst e1; subst e2; rfl
        have hA : NU B ι σ.H.dom (args.toList.map (AO σ.sl)) (args.map a.eval) := ⟨by simp, λ j x y hx hy => by
          obtain ⟨z, hz, rfl⟩ := He hx
          rw [Array.getElem?_toList] at hz
          simp [hz] at hy
          subst hy; exact CT hR.slots z⟩
        obtain ⟨fn, tmps, assign, body, hyr, hround⟩ := hy _ _ _ _ h2 B ι w _ hA hR.base
        refine ⟨HA o a _, ?_⟩
        rw [Oper.semAt_eq _ _ _ (by rw [ho]; exact λ _ h => by cases h)]
        have hrun : (execOp a.eval o).run P w = .ok (.round S.l fn tmps assign body) w := by
          simp only [execOp, ho, resolve, hfe, Deferred.ofValue, invoke, Sem.run_bind, Sem.run_pure, Result.andThen_ok]
          simpa using hyr
        rw [hrun, Oper.uponIn_round]
        refine ⟨(λ h => by cases h), RoundIn.mono hround λ e w' hh => ?_⟩
        obtain ⟨B', ι', H', ht, hh⟩ := hh
        have put : ∀ b m', BaseI S m' B' ι' H' w' -> RelI S n m' B' ι' ⟨XU σ.sl o.dst (.bool b), H'⟩ (a.put o.dst (.bool b)) w' := λ b m' hb =>
          ⟨λ t => bV (λ t => ht _ _ (hR.slots t)) (λ d hd => by rw [hR.size]; exact hdst d hd) (.d (.v _)) t, by cases o.dst <;> simp [Act.put, hR.size], by cases o.dst <;> simp [Act.put, hR.nodef], hb⟩
        rcases hh with ⟨rfl, h3, h4⟩ | ⟨x, rfl, h3, h4⟩
        · exact hK _ _ _ _ _ _ h3 (put true _ h4)
        · exact hK _ _ _ _ _ _ h3 (put false _ h4)
      · exact h.elim
    · split at h
      · rename_i x hx
        split at h
        · rename_i hfr
          obtain ⟨h1, h2⟩ := EP h
          obtain ⟨g, first, caps, he, hc⟩ := En hΓ hx
          have mp : ∀ (l : List Nat), (l.map λ i => (i, σ.H i)).map (·.1) = l := λ l => by
            induction l with
            | nil => rfl
            | cons a l ih => simp only [List.map_cons, ih]
          exact StepO.bare (ops := #[]) (mt := mt) (.call (f := f) (args := args) (ats := ats) rfl ho he (hc h1) (Fk _ _) (PR hfr)) hR hdst λ B' ι' a' w' hR' => hK _ _ _ _ _ _ h2 hR'
        · exact h.elim
      · exact h.elim
  · split at h
    · rename_i e he
      split at h
      · rename_i hfr
        obtain ⟨h1, h2⟩ := EP h
        exact StepO.bare (ops := #[]) (mt := mt) (.op rfl he h1 (QP hfr)) hR hdst λ B' ι' a' w' hR' => hK _ _ _ _ _ _ h2 hR'
      · exact h.elim
    · exact h.elim
theorem kL {A : AnnI} (hΓ : GOk P A.Γ) {yk : YK} (hy : cE P S yk) (hn : A.n = n) {mt : Bool} {base : Nat} {ops : Array Oper} {K : Option Exit -> AState -> Prop} (hK : ∀ m σ, K m σ -> Q .normal m σ) : ∀ (l : List Oper) (k : Nat) (m : Option Exit) (σ : AState), runK P A S.l yk mt base ops K l k m σ ->
    ∀ B ι a w, RelI S n m B ι σ a w -> wpListIn (fG none) 0 P ops (λ e a' w' => ∃ B' ι' m' σ', Q e m' σ' /\ RelI S n m' B' ι' σ' a' w') l a w
  | [], _, m, σ, h, B, ι, a, w, hR => ⟨B, ι, m, σ, hK _ _ h, hR⟩
  | o :: l, k, m, σ, h, B, ι, a, w, hR => by
    simp only [runK] at h
    split at h
    · rename_i hd
      have hdst : ∀ d, o.dst = some d -> d < n := λ d h => hn ▸ qM hd d h
      have go : ∀ σ, RelI S n m B ι σ a w -> BXI P A S.l yk mt (base + 16 * k) o (runK P A S.l yk mt base ops K l (k + 1)) m σ -> o.wpIn (fG none) 0 P a w (wpListIn (fG none) 0 P ops (λ e a' w' => ∃ B' ι' m' σ', Q e m' σ' /\ RelI S n m' B' ι' σ' a' w') l) (λ e a' w' => ∃ B' ι' m' σ', Q e m' σ' /\ RelI S n m' B' ι' σ' a' w') :=
        λ σ hR h => BYE hΓ hy h hdst hR λ B' ι' m' σ' a' w' h1 h2 => kL hΓ hy hn hK l (k + 1) m' σ' h1 B' ι' a' w' h2
      unfold wpListIn
      split at h
      · rename_i hg
        simp only [Region.wanted, hg, if_true]
        exact go σ hR h
      · rename_i j want hg
        split at h
        · rename_i g hgd
          rw [BQK hg hgd hR.slots]
          have hR2 : RelI S n m B ι ⟨refG ops σ.sl j (if g then want else !want), σ.H⟩ a w := ⟨λ t => CHT hgd t (hR.slots t), hR.size, hR.nodef, hR.base⟩
          cases g with
          | true => simp only [if_true]; exact go _ hR2 h
          | false =>
            simp only [Bool.false_eq_true, if_false]
            refine ⟨HA o a _, kL hΓ hy hn hK l (k + 1) m _ h B ι _ w ?_⟩
            exact ⟨λ t => bV hR2.slots (λ d hd => by rw [hR.size]; exact hdst d hd) (.d (.v _)) t, by cases o.dst <;> simp [Act.put, hR.size], by cases o.dst <;> simp [Act.put, hR.nodef], hR.base⟩
        · exact h.elim
    · exact h.elim
def vcI (P : Program) (A : AnnI) (l : Nat) (yk : YK) : Code -> List Nat -> (Exit -> Option Exit -> AState -> Prop) -> Option Exit -> AState -> Prop
  | .skip, _, Q, m, σ => Q .normal m σ
  | .label _, _, Q, m, σ => Q .normal m σ
  | .exit id, _, Q, m, σ => Q (.exit id) m σ
  | .ret, _, Q, m, σ => Q .ret m σ
  | .seq a b, gs, Q, m, σ => vcI P A l yk a gs (BVZ (vcI P A l yk b gs Q) Q) m σ
  | .cond x t e, gs, Q, m, σ => match AO σ.sl x with
    | .d (.v (.bool b)) => bif b then vcI P A l yk t gs Q m σ else vcI P A l yk e gs Q m σ
    | _ => False
  | .block id b, gs, Q, m, σ => vcI P A l yk b gs (BZY id Q) m σ
  | .loop b, gs, Q, m, σ => match m, A.loopAt gs (eW b) with
    | none, some L => Ke A.E (·.at1) σ (λ s a => s.inv a) L /\
        allS (λ s => ∀ a, s.inv a -> vcI P A l yk b (s.meas a :: gs) (BVZ (λ m' σ' => match m' with
          | none => Ke A.E (·.at2) σ' (λ s' a' => s'.inv a' /\ s'.meas a' < s.meas a) L
          | some _ => False) Q) none (s.T a).st) L
    | _, _ => False
  | .region id ops draw, _, Q, m, σ => match draw with
    | true => Ic P A.Γ (A.mt id) (A.base id) A.n ops true σ λ σ' => fD (A.pack id) A.E σ' (Q .normal m)
    | false => runK P A l yk (A.mt id) (A.base id) ops (λ m' σ' => fD (A.pack id) A.E σ' (Q .normal m')) ops.toList 0 m σ
  | _, _, _, _, _ => False
theorem CGY {A : AnnI} (hΓ : GOk P A.Γ) (hm : P.follows .mixedOrders = true) {yk : YK} (hy : cE P S yk) (hn : A.n = n) (hE : ∀ i, S.c.H0.dom i -> i ∈ A.E) (hS : ∀ t, OS (λ i => A.E.contains i) (S.sl1 t) = true) :
    ∀ (code : Code) (gs : List Nat) (Q : Exit -> Option Exit -> AState -> Prop) (m : Option Exit) (σ : AState), vcI P A S.l yk code gs Q m σ -> CodeI P S n code Q m σ := by
  have pk : ∀ {id : Nat} {Q : Exit -> Option Exit -> AState -> Prop} {m : Option Exit} {σ : AState} {B : JO} {ι : Nat -> Pl} {a : Act} {w : World}, fD (A.pack id) A.E σ (Q .normal m) -> RelI S n m B ι σ a w -> ∃ B' ι' m' σ', Q .normal m' σ' /\ RelI S n m' B' ι' σ' a w := λ {id Q m σ B ι a w} h hR => by
    unfold fD at h
    split at h
    · exact ⟨B, ι, m, σ, h, hR⟩
    · split at h
      · rename_i p hp hok
        obtain ⟨h1, h2⟩ := EP h
        obtain ⟨B', hR'⟩ := hR.pack hE hS hok h1
        exact ⟨B', ι, m, _, h2, hR'⟩
      · exact h.elim
  intro code
  induction code with
  | skip => intro gs Q m σ h B ι a w hR; exact wpIn_skip ⟨B, ι, m, σ, h, hR⟩
  | label l => intro gs Q m σ h B ι a w hR; exact wpIn_label ⟨B, ι, m, σ, h, hR⟩
  | exit id => intro gs Q m σ h B ι a w hR; exact wpIn_exit ⟨B, ι, m, σ, h, hR⟩
  | ret => intro gs Q m σ h B ι a w hR; exact wpIn_ret ⟨B, ι, m, σ, h, hR⟩
  | seq a b iha ihb =>
    intro gs Q m σ h
    refine .seq (CodeI.mono (iha gs _ m σ h) λ e m σ' hq => ?_)
    cases e with
    | normal => exact ihb gs Q m σ' hq
    | _ => exact hq
  | cond x t e iht ihe =>
    intro gs Q m σ h
    simp only [vcI] at h
    split at h
    · rename_i b hb
      rw [CIT] at h; exact .cond hb (λ hb => iht gs Q m σ (h.1 hb)) λ hb => ihe gs Q m σ (h.2 hb)
    · exact h.elim
  | block id b ih => intro gs Q m σ h; exact .block (ih gs _ m σ h)
  | loop b ih =>
    intro gs Q m σ h
    simp only [vcI] at h
    split at h
    · rename_i L hL
      obtain ⟨h0, h3⟩ := h
      obtain ⟨s, hs, a, h1, h2⟩ := KH h0
      refine .loop (λ k σ => ∃ l fz s a, s ∈ L /\ BX (LD A.E fz l (s.T a) σ) /\ s.inv a /\ s.meas a = k) (s.meas a) ⟨_, _, s, a, hs, h1, h2, rfl⟩ ?_
      rintro k σ' ⟨l, fz, s, a, hs, h4, h5, rfl⟩ B ι act w hR
      obtain ⟨B', hR'⟩ := hR.subF hE hS h4
      refine wpIn_mono (ih _ _ _ _ (Xs h3 s hs a h5) B' _ act w hR') λ e a' w' hq => ?_
      obtain ⟨B2, ι2, m2, σ2, hq, hR2⟩ := hq
      refine ⟨B2, ι2, m2, σ2, ?_, hR2⟩
      cases e with
      | normal =>
        simp only [BVZ] at hq
        cases m2 with
        | none => obtain ⟨s', q0, a', q1, q2, q3⟩ := KH hq; exact ⟨rfl, s'.meas a', q3, _, _, s', a', q0, q1, q2, rfl⟩
        | some x => exact hq.elim
      | _ => exact hq
    · exact h.elim
  | scope b ih => intro gs Q m σ h; exact h.elim
  | region id ops draw =>
    intro gs Q m σ h
    cases draw with
    | true =>
      simp only [vcI] at h
      intro B ι a w hR
      have h1 : CodeI P S n (.region id ops true) (λ e m' σ' => e = .normal /\ fD (A.pack id) A.E σ' (Q .normal m')) m σ :=
        CodeI.of (Q1 := λ e σ' => e = .normal /\ fD (A.pack id) A.E σ' (Q .normal m)) (λ c h1 h2 h3 => eZ (id := id) hΓ hm (by rw [h1, <- hn]; exact wP (λ σ' hk => ⟨rfl, hk⟩) h)) λ e σ' h => h
      refine wpIn_mono (h1 B ι a w hR) λ e a' w' hq => ?_
      obtain ⟨B', ι', m', σ', ⟨rfl, hp⟩, hR'⟩ := hq
      exact pk hp hR'
    | false =>
      simp only [vcI] at h
      intro B ι a w hR
      have := wpIn_region_list (id := id) (kL (Q := λ e m' σ' => e = .normal /\ fD (A.pack id) A.E σ' (Q .normal m')) hΓ hy hn (λ m σ h => ⟨rfl, h⟩) _ _ _ _ h B ι a w hR)
      refine wpIn_mono this λ e a' w' hq => ?_
      obtain ⟨B', ι', m', σ', ⟨rfl, hp⟩, hR'⟩ := hq
      exact pk hp hR'
  | rangeFunc => intro gs Q m σ h; exact h.elim
  | goto => intro gs Q m σ h; exact h.elim
  | refuse => intro gs Q m σ h; exact h.elim
end
end Go.Sym
