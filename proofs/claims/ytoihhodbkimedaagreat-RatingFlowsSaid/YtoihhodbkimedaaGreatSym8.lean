/- Guards: what stands under a guard looks only at what stands under the same. -/
import Derived.Test.YtoihhodbkimedaaGreatSym7
set_option linter.unusedVariables false
set_option linter.unusedSimpArgs false
namespace Go.Sym
theorem JR {a b : List Prop} : BK (a ++ b) ↔ BK a /\ BK b := by
  induction a with
  | nil => simp [BK]
  | cons p a ih => rw [List.cons_append, DY, DY, ih, and_assoc]
variable {P : Program} {B B' : KN} {ι ι' : Nat -> Pl} {H H' : Heap} {D : Nat -> Prop} {w w' : World}
def BMR (o : Oper) (t : Nat) : Bool := match o.dst with
  | some d => Nat.beq d t
  | none => false
theorem BPA {o : Oper} {t : Nat} (h : BMR o t = true) : o.dst = some t := by
  unfold BMR at h
  split at h
  · rename_i d hd; rw [hd, Nat.eq_of_beq_eq_true h]
  · cases h
def RI : List Oper -> Bool
  | [] => true
  | o :: l => (match o.dst with
    | some d => l.all λ o' => !BMR o' d
    | none => true) && RI l
theorem Mx {l : List Oper} (h : RI l = true) {i k : Nat} {o o' : Oper} {t : Nat} (hik : i < k) (ho : l[i]? = some o) (ho' : l[k]? = some o') (ht : o.dst = some t) : o'.dst ≠ some t := by
  induction l generalizing i k with
  | nil => simp at ho
  | cons a l ih =>
    simp only [RI, Bool.and_eq_true] at h
    cases k with
    | zero => omega
    | succ k =>
      rw [List.getElem?_cons_succ] at ho'
      cases i with
      | zero =>
        rw [List.getElem?_cons_zero] at ho
        cases ho
        have h1 := h.1
        rw [ht] at h1
        simp only [List.all_eq_true] at h1
        have := h1 o' (List.mem_of_getElem? ho')
        intro he
        simp [BMR, he] at this
      | succ i => exact ih h.2 (i := i) (k := k) (by omega) (by rw [List.getElem?_cons_succ] at ho; exact ho) ho'
def lowL : List Oper -> Nat -> Bool
  | [], _ => true
  | o :: l, k => (match o.guard with
    | some q => Nat.blt q.1 k
    | none => true) && lowL l (k + 1)
theorem Rc : ∀ {l : List Oper} {k : Nat}, lowL l k = true -> ∀ {i : Nat} {o : Oper} {q : Nat × Bool}, l[i]? = some o -> o.guard = some q -> q.1 < k + i
  | [], _, _, i, o, q, h, _ => by simp at h
  | a :: l, k, h, 0, o, q, ho, hq => by
    simp only [lowL, Bool.and_eq_true] at h
    simp at ho; subst ho
    have h1 := h.1
    rw [hq] at h1
    simpa using h1
  | a :: l, k, h, i + 1, o, q, ho, hq => by
    simp only [lowL, Bool.and_eq_true] at h
    have := Rc h.2 (i := i) (by simpa using ho) hq
    omega
def wg : List Oper -> Nat -> Nat -> Option (Nat × Bool)
  | [], _, _ => none
  | _ :: _, 0, _ => none
  | o :: l, k + 1, t => if BMR o t then o.guard else wg l k t
theorem BVI : ∀ {l : List Oper} {k t : Nat} {q : Nat × Bool}, wg l k t = some q -> ∃ i o, i < k /\ l[i]? = some o /\ o.dst = some t /\ o.guard = some q
  | [], k, t, q, h => by simp [wg] at h
  | o :: l, 0, t, q, h => by simp [wg] at h
  | o :: l, k + 1, t, q, h => by
    simp only [wg] at h
    split at h
    · rename_i hd; exact ⟨0, o, by omega, rfl, BPA hd, h⟩
    · obtain ⟨i, o', h1, h2, h3⟩ := BVI h
      exact ⟨i + 1, o', by omega, by simpa using h2, h3⟩
def gcov (ops : Array Oper) : Nat -> Nat × Bool -> Nat × Bool -> Bool
  | 0, _, _ => false
  | f + 1, q, q' => (Nat.beq q.1 q'.1 && (q.2 == q'.2)) || match (ops[q.1]?).bind (·.guard) with
    | some q2 => gcov ops f q2 q'
    | none => false
def GInv (ops : Array Oper) (sl : Nat -> AVal) (k : Nat) : Prop :=
  ∀ i o t q, i < k -> ops[i]? = some o -> o.dst = some t -> o.guard = some q -> ∃ g v, sl t = .opt g v /\ DB ops sl q.1 q.2 = some g
theorem BRN {ops : Array Oper} {sl : Nat -> AVal} {j : Nat} {want g gd : Bool} {t : Nat} {v : AVal} (ht : (ops[j]?).bind (·.dst) = some t) (hs : sl t = .opt gd v) (h : DB ops sl j want = some g) (hg : g = true) : gd = true := by
  unfold DB at h
  rw [ht] at h
  simp only [hs] at h
  split at h <;> simp_all
theorem BPC {ops : Array Oper} {sl : Nat -> AVal} {j : Nat} {want g : Bool} (h : DB ops sl j want = some g) : ∃ o t, ops[j]? = some o /\ o.dst = some t := by
  unfold DB at h
  split at h
  · rename_i t ht
    cases hj : ops[j]? with
    | none => rw [hj] at ht; cases ht
    | some o => rw [hj] at ht; exact ⟨o, t, rfl, ht⟩
  · cases h
theorem BBM {ops : Array Oper} {sl : Nat -> AVal} {k : Nat} (hI : GInv ops sl k) (hl : lowL ops.toList 0 = true) : ∀ (f : Nat) (q q' : Nat × Bool) (g g' : Bool), gcov ops f q q' = true -> q.1 < k -> DB ops sl q.1 q.2 = some g -> g = true -> DB ops sl q'.1 q'.2 = some g' -> g' = true
  | 0, _, _, _, _, h, _, _, _, _ => by simp [gcov] at h
  | f + 1, q, q', g, g', h, hq, h1, hg, h2 => by
    simp only [gcov, Bool.or_eq_true, Bool.and_eq_true, DD, beq_iff_eq] at h
    rcases h with ⟨e1, e2⟩ | h
    · rw [<- e1, <- e2, h1] at h2; cases h2; exact hg
    · split at h
      · rename_i q2 hq2
        obtain ⟨o, t, ho, ht⟩ := BPC h1
        have hgq : o.guard = some q2 := by rw [ho] at hq2; exact hq2
        obtain ⟨gd, v, hs, hgd⟩ := hI q.1 o t q2 hq ho ht hgq
        have := BRN (by rw [ho]; exact ht) hs h1 hg
        have hlow := Rc hl (i := q.1) (by simpa using ho) hgq
        exact BBM hI hl f q2 q' gd g' h (by omega) hgd this h2
      · cases h
def tagW (cv : Nat × Bool -> Bool) (ops : Array Oper) (k : Nat) (c : Prop) (x : Operand) (a : AVal) : List Prop := match a with
  | .opt g _ => match x with
    | .tmp t => match wg ops.toList k t with
      | some q => if cv q then [] else [c -> g = true]
      | none => [c -> g = true]
    | _ => [c -> g = true]
  | _ => []
theorem Xi {cv : Nat × Bool -> Bool} {ops : Array Oper} {sl : Nat -> AVal} {k : Nat} {c : Prop} {x : Operand} (hI : GInv ops sl k) (hcv : ∀ q g, cv q = true -> DB ops sl q.1 q.2 = some g -> c -> g = true) (h : BK (tagW cv ops k c x (AO sl x))) : BK (RY c (AO sl x)) := by
  generalize ha : AO sl x = a at h
  cases a with
  | opt g v =>
    simp only [tagW] at h
    split at h
    · rename_i t
      split at h
      · rename_i q hq
        split at h
        · rename_i hc
          obtain ⟨i, o, h1, h2, h3, h4⟩ := BVI hq
          obtain ⟨g', v', h5, h6⟩ := hI i o t q h1 (by simpa using h2) h3 h4
          have : sl t = .opt g v := ha
          rw [h5] at this; cases this
          exact λ c => hcv q _ hc h6 c
        · exact h
      · exact h
    · exact h
  | _ => trivial
def cvOwn (ops : Array Oper) (k : Nat) (gd : Option (Nat × Bool)) (q : Nat × Bool) : Bool := match gd with
  | some g => gcov ops (k + 1) g q
  | none => false
def BFF (ops : Array Oper) (k : Nat) (gd : Option (Nat × Bool)) (c : Operand) (want : Bool) (q : Nat × Bool) : Bool :=
  (match c, (ops[q.1]?).bind (·.dst) with
    | .tmp tc, some t => Nat.beq t tc && (q.2 == want)
    | _, _ => false) || cvOwn ops k gd q
def BWS (ops : Array Oper) (k : Nat) (sl : Nat -> AVal) (o : Oper) : List Prop := match o.op, o.guard with
  | .pick c a b, gd => match BL (AO sl c) with
    | .d (.v (.bool t)) => tagW (cvOwn ops k gd) ops k True c (AO sl c) ++ (tagW (BFF ops k gd c true) ops k (t = true) a (AO sl a) ++ tagW (BFF ops k gd c false) ops k (t = false) b (AO sl b))
    | _ => []
  | _, none => []
  | op, some q => op.operands.toList.flatMap λ x => tagW (cvOwn ops k (some q)) ops k True x (AO sl x)
def Jc (sl : Nat -> AVal) (o : Oper) : List Prop := match o.op, o.guard with
  | .pick c a b, _ => match BL (AO sl c) with
    | .d (.v (.bool t)) => RY True (AO sl c) ++ (RY (t = true) (AO sl a) ++ RY (t = false) (AO sl b))
    | _ => []
  | _, none => []
  | op, some _ => JE (AO sl) op.operands.toList
theorem AGA {ops : Array Oper} {sl : Nat -> AVal} {k : Nat} {gd : Option (Nat × Bool)} {c : Operand} {want t : Bool} (hO : ∀ q g, cvOwn ops k gd q = true -> DB ops sl q.1 q.2 = some g -> g = true) (hc : BL (AO sl c) = .d (.v (.bool t))) (ht : BK (RY True (AO sl c))) (q : Nat × Bool) (g : Bool)
    (h : BFF ops k gd c want q = true) (hg : DB ops sl q.1 q.2 = some g) (hw : t = want) : g = true := by
  simp only [BFF, Bool.or_eq_true] at h
  rcases h with h | h
  · split at h
    · rename_i tc t' hd
      simp only [Bool.and_eq_true, DD, beq_iff_eq] at h
      obtain ⟨rfl, h2⟩ := h
      unfold DB at hg
      rw [hd] at hg
      simp only [AO] at hc ht
      subst hw
      rw [h2] at hg
      obtain ⟨v, hv⟩ : ∃ v, sl t' = v := ⟨_, rfl⟩
      simp only [hv] at hc ht hg
      cases v with
      | opt gc v' =>
        have : gc = true := ht trivial
        subst this
        simp only [BL] at hc; subst hc
        cases t <;> simp at hg <;> exact hg
      | d x => simp only [BL] at hc; cases hc; cases t <;> simp at hg <;> exact hg
      | _ => simp only [BL] at hc; cases hc
    · cases h
  · exact hO q g h hg
theorem BOU {ops : Array Oper} {sl : Nat -> AVal} {k : Nat} {o : Oper} (hI : GInv ops sl k) (hl : lowL ops.toList 0 = true) (ho : ops[k]? = some o) (hgd : ∀ q, o.guard = some q -> DB ops sl q.1 q.2 = some true) (h : BK (BWS ops k sl o)) : BK (Jc sl o) := by
  have hO : ∀ q g, cvOwn ops k o.guard q = true -> DB ops sl q.1 q.2 = some g -> g = true := λ q g hc hg => by
    unfold cvOwn at hc
    split at hc
    · rename_i q0 hq0
      have := Rc hl (i := k) (by simpa using ho) hq0
      exact BBM hI hl _ q0 q true g hc (by omega) (hgd q0 hq0) rfl hg
    · cases hc
  unfold BWS at h
  unfold Jc
  split at h
  · rename_i c a b ho'
    split at h
    · rename_i t hc
      obtain ⟨h1, h2⟩ := AV h
      obtain ⟨h2, h3⟩ := AV h2
      have t1 := Xi hI (λ q g a b _ => hO q g a b) h1
      exact JR.2 ⟨t1, JR.2 ⟨Xi hI (λ q g a b c => AGA hO hc t1 q g a b c) h2, Xi hI (λ q g a b c => AGA hO hc t1 q g a b c) h3⟩⟩
    · trivial
  · trivial
  · rename_i q hgn hq
    rw [hgn] at hO
    generalize o.op.operands.toList = l at h
    induction l with
    | nil => trivial
    | cons x l ih =>
      rw [List.flatMap_cons] at h
      obtain ⟨h1, h2⟩ := AV h
      show BK (RY True (AO sl x) ++ JE (AO sl) l)
      exact JR.2 ⟨Xi hI (λ q g a b _ => hO q g a b) h1, ih h2⟩
theorem GInv.next {ops : Array Oper} {sl : Nat -> AVal} {k : Nat} {o : Oper} {v : AVal} (hI : GInv ops sl k) (hl : lowL ops.toList 0 = true) (hd : RI ops.toList = true) (ho : ops[k]? = some o) (hv : ∀ q, o.guard = some q -> ∃ g v', v = .opt g v' /\ DB ops sl q.1 q.2 = some g) (sl' : Nat -> AVal)
    (hsl : ∀ t, sl' t = if o.dst = some t then v else sl t) : GInv ops sl' (k + 1) := by
  have hk : ∀ j want, j < k -> DB ops sl' j want = DB ops sl j want := λ j want hj => by
    unfold DB
    cases hjo : ops[j]? with
    | none => rfl
    | some oj =>
      simp only [Option.bind_some]
      cases hdj : oj.dst with
      | none => rfl
      | some t =>
        simp only
        rw [hsl t, if_neg (Mx hd hj (by simpa using hjo) (by simpa using ho) hdj)]
  intro i o' t q hi ho' ht hq
  have hlow := Rc hl (i := i) (by simpa using ho') hq
  rcases Nat.lt_or_ge i k with hik | hik
  · obtain ⟨g, v', h1, h2⟩ := hI i o' t q hik ho' ht hq
    refine ⟨g, v', ?_, by rw [hk _ _ (by omega)]; exact h2⟩
    rw [hsl t, if_neg (Mx hd hik (by simpa using ho') (by simpa using ho) ht)]
    exact h1
  · have : i = k := by omega
    subst this
    rw [ho] at ho'; cases ho'
    obtain ⟨g, v', h1, h2⟩ := hv q hq
    exact ⟨g, v', by rw [hsl t, if_pos ht]; exact h1, by rw [hk _ _ (by omega)]; exact h2⟩
end Go.Sym

namespace Go.Sym
variable {P : Program} {B B' : KN} {ι ι' : Nat -> Pl} {H H' : Heap} {D : Nat -> Prop} {w w' : World} {c : Ctx} {σ : AState} {Q : Exit -> AState -> Prop}
structure CallR where
  ids : List Nat
  val : AVal
  upd : List (Nat × HCell)
  pre : List Prop
abbrev Spec := List AVal -> Heap -> Nat -> Option CallR
def AG (P : Program) (g : FuncId) (s : Spec) : Prop := ∀ as H r x, s as H r = some x -> BK x.pre -> BME P g as r (x.ids.map λ i => (i, H i)) x.val x.upd
def isNone : HCell -> Bool
  | .none => true
  | _ => false
theorem RF {c : HCell} (h : isNone c = true) : c = .none := by cases c <;> first | rfl | cases h
def VJ (H : Heap) (r : Nat) : Bool := (List.range 16).all λ i => isNone (H (r + i))
theorem QQ {r : Nat} (h : VJ H r = true) : ∀ i, r <= i -> i < r + 16 -> H i = .none := λ i h1 h2 => by
  simp only [VJ, List.all_eq_true, List.mem_range] at h
  have := RF (h (i - r) (by omega))
  rwa [show r + (i - r) = i by omega] at this
def BNA (n : Nat) (o : Oper) : Bool := match o.dst with
  | some d => Nat.blt d n
  | none => true
theorem jA {n : Nat} {o : Oper} (h : BNA n o = true) : ∀ d, o.dst = some d -> d < n := by
  intro d hd
  simpa [BNA, hd] using h
structure Stp where
  val : AVal
  upd : List (Nat × HCell)
  touch : List Nat
  pre : List Prop
def BCC (Γ : FuncId -> Option Spec) (r : Nat) (f : AVal) (args : List AVal) (H : Heap) : Option CallR := match f with
  | .fn (.func g) first caps => match Γ g with
    | some s => s (first ++ args ++ caps) H r
    | none => none
  | _ => none
def gopB (P : Program) (r : Nat) (ρ : Operand -> AVal) (H : Heap) (g : Bool) (op : Op) : Option (AVal × List Prop) := match op with
  | .pick c a b => match BL (ρ c) with
    | .d (.v (.bool t)) => some (AOU t (BL (ρ a)) (BL (ρ b)), [])
    | _ => none
  | .buildSlice t len ps => match GO P r t len (ps.toList.map λ p => (p.1, BL (ρ p.2))) with
    | some ⟨_, [(_, .live (.row k n get))], _⟩ => some (.d (.list k n get true), [])
    | _ => none
  | op => match opA P false r (λ x => BL (ρ x)) H op with
    | some ⟨v, [], p⟩ => some (v, Mq g p)
    | _ => none
def CPV (P : Program) (Γ : FuncId -> Option Spec) (mt : Bool) (r : Nat) (σ : AState) : Op -> Option Stp
  | .call ⟨.value f, args, _⟩ => match BCC Γ r (AO σ.sl f) (args.toList.map (AO σ.sl)) σ.H with
    | some x => if VJ σ.H r then some ⟨x.val, x.upd, x.ids ++ (List.range 16).map (r + ·), x.pre⟩ else none
    | none => none
  | .call ⟨.invoke x m, args, _⟩ => match AO σ.sl x with
    | .d (.iface t d) => match AHM P t m with
      | some g => match BCC Γ r (.fn (.func g) [.d d] []) (args.toList.map (AO σ.sl)) σ.H with
        | some x => if VJ σ.H r then some ⟨x.val, x.upd, x.ids ++ (List.range 16).map (r + ·), x.pre⟩ else none
        | none => none
      | none => none
    | _ => none
  | .pick c a b => match AO σ.sl c with
    | .d (.v (.bool t)) => if isNone (σ.H r) then some ⟨AOU t (BL (AO σ.sl a)) (BL (AO σ.sl b)), [], r :: TF (AO σ.sl) (.pick c a b), []⟩ else none
    | _ => none
  | op => match opA P mt r (AO σ.sl) σ.H op with
    | some e => if isNone (σ.H r) then some ⟨e.val, e.upd, r :: TF (AO σ.sl) op, e.pre⟩ else none
    | none => none
def stepG (P : Program) (Γ : FuncId -> Option Spec) (r : Nat) (σ : AState) (g : Bool) : Op -> Option (AVal × List Nat × List Prop)
  | .call ⟨.value f, args, _⟩ => match BCC Γ r (BL (AO σ.sl f)) (args.toList.map λ x => BL (AO σ.sl x)) σ.H with
    | some ⟨ids, v, [], p⟩ => if VJ σ.H r then some (v, ids ++ (List.range 16).map (r + ·), Mq g p) else none
    | _ => none
  | op => match gopB P r (AO σ.sl) σ.H g op with
    | some (v, p) => if isNone (σ.H r) then some (v, r :: TF (λ x => BL (AO σ.sl x)) op, p) else none
    | none => none
def ANA (P : Program) (Γ : FuncId -> Option Spec) (mt : Bool) (ops : Array Oper) (r : Nat) (σ : AState) (o : Oper) : Option Stp := match o.guard with
  | none => CPV P Γ mt r σ o.op
  | some (j, want) => match DB ops σ.sl j want with
    | some g => match stepG P Γ r σ g o.op with
      | some (v, touch, p) => some ⟨.opt g v, [], touch, p⟩
      | none => none
    | none => none
theorem Mj {g : Bool} {l : List Prop} (h : g = true -> BK l) : BK (Mq g l) := by
  cases l with
  | nil => trivial
  | cons => exact h
theorem AQG {op : Op} (h : ∀ c a b, op = .pick c a b -> False) (sl : Nat -> AVal) (o : Oper) (ho : o.op = op) (q : Nat × Bool) (hq : o.guard = some q) : Jc sl o = JE (AO sl) op.operands.toList := by
  unfold Jc
  rw [ho, hq]
  cases op <;> first | rfl | exact (h _ _ _ rfl).elim
def GOk (P : Program) (Γ : FuncId -> Option Spec) : Prop := ∀ g s, Γ g = some s -> AG P g s
theorem Co {Γ : FuncId -> Option Spec} (hΓ : GOk P Γ) {r : Nat} {f : AVal} {args : List AVal} {x : CallR} (h : BCC Γ r f args H = some x) : ∃ g first caps, f = .fn (.func g) first caps /\ (BK x.pre -> BME P g (first ++ args ++ caps) r (x.ids.map λ i => (i, H i)) x.val x.upd) := by
  unfold BCC at h
  split at h
  · rename_i g first caps
    split at h
    · rename_i s hs
      exact ⟨g, first, caps, rfl, hΓ g s hs _ _ _ _ h⟩
    · cases h
  · cases h
theorem Cq (l : List Nat) (H : Heap) : ∀ p ∈ l.map (λ i => (i, H i)), H p.1 = p.2 := λ p hp => by
  obtain ⟨i, _, rfl⟩ := List.mem_map.1 hp; rfl
theorem BZD {r : Nat} {sl : Nat -> AVal} {g : Bool} {o : Oper} {q : Nat × Bool} {v : AVal} {p : List Prop} (h : gopB P r (AO sl) H g o.op = some (v, p)) (hq : o.guard = some q) (hp : BK p) (ht : g = true -> BK (Jc sl o)) : ∃ p', gopA P r (AO sl) H g o.op = some (v, p') /\ BK p' := by
  unfold gopB at h
  split at h
  · rename_i c a b ho
    split at h
    · rename_i t hc
      cases h
      refine ⟨Mq g (RY True (AO sl c) ++ (RY (t = true) (AO sl a) ++ RY (t = false) (AO sl b))), by rw [ho]; simp only [gopA, hc], Mj λ hg => ?_⟩
      have := ht hg
      unfold Jc at this
      rw [ho, hq] at this
      simp only [hc] at this
      exact this
    · cases h
  · rename_i t len ps ho
    split at h
    · rename_i hb
      cases h
      refine ⟨Mq g (JE (AO sl) (Op.buildSlice t len ps).operands.toList), by rw [ho]; simp only [gopA, hb], Mj λ hg => ?_⟩
      have := ht hg
      rw [AQG (λ _ _ _ h => by cases h) sl o ho _ hq] at this
      exact this
    · cases h
  · rename_i h1 h2
    split at h
    · rename_i e1 e2 ho
      cases h
      refine ⟨Mq g (JE (AO sl) o.op.operands.toList ++ e2), ?_, Mj λ hg => ?_⟩
      · unfold gopA
        split
        · rename_i c a b hop; exact (h1 c a b hop).elim
        · rename_i t len ps hop; exact (h2 t len ps hop).elim
        · rw [ho]
      · have := ht hg
        rw [AQG (λ c a b h => h1 c a b h) sl o rfl _ hq] at this
        exact JR.2 ⟨this, MI hp hg⟩
    · cases h
theorem BMG {Γ : FuncId -> Option Spec} {mt : Bool} {ops : Array Oper} {r : Nat} {o : Oper} {s : Stp} (h : ANA P Γ mt ops r σ o = some s) (q : Nat × Bool) (hq : o.guard = some q) : ∃ g v, s.val = .opt g v /\ DB ops σ.sl q.1 q.2 = some g := by
  unfold ANA at h
  rw [hq] at h
  simp only at h
  split at h
  · rename_i g hg
    split at h
    · cases h; exact ⟨g, _, rfl, hg⟩
    · cases h
  · cases h
theorem Qe {Γ : FuncId -> Option Spec} (hΓ : GOk P Γ) {mt : Bool} {ops : Array Oper} {r : Nat} {o : Oper} {s : Stp} (h : ANA P Γ mt ops r σ o = some s) (hp : BK s.pre) (ht : (∀ q, o.guard = some q -> DB ops σ.sl q.1 q.2 = some true) -> BK (Jc σ.sl o)) : StepO P mt ops r σ o s.val s.upd s.touch := by
  have mp : ∀ (l : List Nat), (l.map λ i => (i, σ.H i)).map (·.1) = l := λ l => by
    induction l with
    | nil => rfl
    | cons a l ih => simp only [List.map_cons, ih]
  have ht' : ∀ {j want g}, o.guard = some (j, want) -> DB ops σ.sl j want = some g -> g = true -> BK (Jc σ.sl o) := λ hg hw hgt => ht λ q hq => by
    rw [hg] at hq; cases hq; rw [hw, hgt]
  unfold ANA at h
  split at h
  · rename_i hg
    unfold CPV at h
    split at h
    · rename_i f args ats ho
      split at h
      · rename_i x hx
        split at h
        · rename_i hf
          cases h
          obtain ⟨g, first, caps, he, hc⟩ := Co hΓ hx
          have := StepO.call (mt := mt) (ops := ops) hg ho he (hc hp) (Cq _ _) (QQ hf)
          rw [mp] at this; exact this
        · cases h
      · cases h
    · rename_i y m args ats ho
      split at h
      · rename_i t d hy
        split at h
        · rename_i g0 hm
          split at h
          · rename_i x hx
            split at h
            · rename_i hf
              cases h
              obtain ⟨g, first, caps, he, hc⟩ := Co hΓ hx
              cases he
              have hc' := hc hp
              simp only [List.cons_append, List.nil_append, List.append_nil] at hc'
              have := StepO.inv (mt := mt) (ops := ops) hg ho hy hm hc' (Cq _ _) (QQ hf)
              rw [mp] at this; exact this
            · cases h
          · cases h
        · cases h
      · cases h
    · rename_i c a b ho
      split at h
      · rename_i t hc
        split at h
        · rename_i hf
          cases h
          have h0 := ht λ q hq => by rw [hg] at hq; cases hq
          have h1 : BK (RY (t = true) (AO σ.sl a) ++ RY (t = false) (AO σ.sl b)) := by
            unfold Jc at h0
            rw [ho, hg] at h0
            simp only [hc, BL, RY, List.nil_append] at h0
            exact h0
          have := StepO.op (P := P) (mt := mt) (ops := ops) (r := r) (σ := σ) (o := o) (e := ⟨AOU t (BL (AO σ.sl a)) (BL (AO σ.sl b)), [], RY (t = true) (AO σ.sl a) ++ RY (t = false) (AO σ.sl b)⟩) hg (by rw [ho]; simp only [opA, hc]) h1 (RF hf)
          rw [ho] at this; exact this
        · cases h
      · cases h
    · split at h
      · rename_i e he
        split at h
        · rename_i hf
          cases h
          exact .op hg he hp (RF hf)
        · cases h
      · cases h
  · rename_i j want hg
    split at h
    · rename_i g hw
      split at h
      · rename_i v touch p hst
        cases h
        unfold stepG at hst
        split at hst
        · rename_i f args ats ho
          split at hst
          · rename_i ids v p hx
            split at hst
            · rename_i hf
              cases hst
              obtain ⟨g', first, caps, he, hc⟩ := Co hΓ hx
              have := StepO.gcall (mt := mt) (ops := ops) (r := r) hg hw ho he (λ h => by
                have := ht' hg hw h
                rw [AQG (λ _ _ _ h => by cases h) σ.sl o ho _ hg] at this
                rw [ho]; exact this) (λ h => hc (MI hp h)) (Cq _ _) (QQ hf)
              rw [mp] at this; exact this
            · cases hst
          · cases hst
        · split at hst
          · rename_i v p he
            split at hst
            · rename_i hf
              cases hst
              obtain ⟨p', h1, h2⟩ := BZD (sl := σ.sl) (o := o) he hg hp (ht' hg hw)
              exact .gop hg hw h1 h2 (RF hf)
            · cases hst
          · cases hst
      · cases h
    · cases h
structure Run where
  st : AState
  pre : List Prop
  tab : List (List Nat × List Nat)
theorem AJU (sl : Nat -> AVal) (dst : Option Tmp) (v : AVal) (t : Nat) : WB sl dst v t = if dst = some t then v else sl t := by
  cases dst with
  | none => simp [WB]
  | some d =>
    by_cases h : t = d
    · simp [WB, h]
    · simp [WB, h, Ne.symm h]
def tagC (ops : Array Oper) (k : Nat) (σ : AState) (o : Oper) : List Prop := match o.guard with
  | none => BWS ops k σ.sl o
  | some (j, want) => match DB ops σ.sl j want with
    | some g => Mq g (BWS ops k σ.sl o)
    | none => []
def AVN (P : Program) (Γ : FuncId -> Option Spec) (mt : Bool) (ops : Array Oper) (base n : Nat) : List Oper -> Nat -> AState -> Option Run
  | [], _, σ => some ⟨σ, [], []⟩
  | o :: l, k, σ => if BNA n o then match ANA P Γ mt ops (base + 16 * k) σ o with
      | some s => match AVN P Γ mt ops base n l (k + 1) (σ.app o.dst s.val s.upd) with
        | some x => some ⟨x.st, tagC ops k σ o ++ (s.pre ++ x.pre), (s.touch, s.upd.map (·.1)) :: x.tab⟩
        | none => none
      | none => none
    else none
def BXC (l : List (List Nat × List Nat)) : Yx := λ k => l.getD k ([], [])
theorem BYE {ops : Array Oper} {k : Nat} {o : Oper} (hI : GInv ops σ.sl k) (hl : lowL ops.toList 0 = true) (ho : ops[k]? = some o) (h : BK (tagC ops k σ o)) (hg : ∀ q, o.guard = some q -> DB ops σ.sl q.1 q.2 = some true) : BK (Jc σ.sl o) := by
  refine BOU hI hl ho hg ?_
  unfold tagC at h
  split at h
  · exact h
  · rename_i j want hq
    have := hg _ hq
    simp only at this
    rw [this] at h
    exact MI h rfl
theorem sN {Γ : FuncId -> Option Spec} (hΓ : GOk P Γ) {mt : Bool} {ops : Array Oper} {base n : Nat} {K : AState -> Prop} (hl : lowL ops.toList 0 = true) (hd : RI ops.toList = true) : ∀ (l : List Oper) (σ : AState) (x : Run) (T0 : List (List Nat × List Nat)), ops.toList.drop T0.length = l -> GInv ops σ.sl T0.length -> AVN P Γ mt ops base n l T0.length σ = some x -> BK x.pre -> K x.st ->
    LexT P mt ops base n (BXC (T0 ++ x.tab)) K l T0.length σ
  | [], σ, x, T0, _, _, h, _, hK => by simp only [AVN, Option.some.injEq] at h; subst h; exact hK
  | o :: l, σ, x, T0, hdr, hI, h, hp, hK => by
    simp only [AVN] at h
    have ho : ops[T0.length]? = some o := by
      have : (ops.toList.drop T0.length)[0]? = some o := by rw [hdr]; rfl
      simpa using this
    split at h
    · rename_i hdo
      split at h
      · rename_i s hs
        split at h
        · rename_i y hy
          cases h
          obtain ⟨hp0, hp1⟩ := AV hp
          obtain ⟨hp1, hp2⟩ := AV hp1
          have hI' : GInv ops (σ.app o.dst s.val s.upd).sl (T0.length + 1) := hI.next hl hd ho (λ q hq => BMG hs q hq) _ (AJU _ _ _)
          have ih := sN hΓ hl hd l _ y (T0 ++ [(s.touch, s.upd.map (·.1))]) (by
            have := congrArg List.tail hdr
            simpa using this) (by simpa using hI') (by simpa using hy) hp2 hK
          have ht : BXC (T0 ++ ((s.touch, s.upd.map (·.1)) :: y.tab)) T0.length = (s.touch, s.upd.map (·.1)) := by simp [BXC]
          refine ⟨s.val, s.upd, s.touch, Qe hΓ hs hp1 (BYE hI hl ho hp0), jA hdo, by rw [ht], by rw [ht], ?_⟩
          simpa using ih
        · cases h
      · cases h
    · cases h
theorem BCN {mt : Bool} {ops : Array Oper} {base n : Nat} {T : Yx} {K : AState -> Prop} : ∀ (l : List Oper) (k : Nat) (σ : AState), LexT P mt ops base n T K l k σ -> LexE P mt ops base n K l k σ
  | [], _, _, h => h
  | o :: l, k, σ, h => by
    obtain ⟨val, upd, touch, h1, h2, _, _, h5⟩ := h
    exact ⟨val, upd, touch, h1, h2, BCN l (k + 1) _ h5⟩
def Fs (P : Program) (Γ : FuncId -> Option Spec) (mt : Bool) (base n : Nat) (ops : Array Oper) (draw : Bool) (σ : AState) (K : AState -> Prop) : Prop :=
  match AVN P Γ mt ops base n ops.toList 0 σ with
  | some x => if lowL ops.toList 0 && RI ops.toList && (!draw || lexFromT .any ops (BXC x.tab) ops.size 0 (Array.replicate ops.size false)) then andK x.pre (K x.st) else False
  | none => False
theorem Yq {Γ : FuncId -> Option Spec} (hΓ : GOk P Γ) (hm : P.follows .mixedOrders = true) {mt : Bool} {base : Nat} {id : Nat} {ops : Array Oper} {draw : Bool} (h : Fs P Γ mt base c.n ops draw σ (Q .normal)) : CodeE P c (.region id ops draw) Q σ := by
  unfold Fs at h
  split at h
  · rename_i x hx
    split at h
    · rename_i hc
      simp only [Bool.and_eq_true] at hc
      obtain ⟨⟨hl, hd⟩, h1⟩ := hc
      obtain ⟨h2, h3⟩ := GC h
      have hl := sN hΓ (K := Q .normal) hl hd ops.toList σ x [] (by simp) (λ i _ _ _ hi => by simp at hi) (by simpa using hx) h2 h3
      simp only [List.nil_append, List.length_nil] at hl
      cases draw with
      | false => exact BQY (BCN _ _ _ hl)
      | true => exact BLM hm (by simpa using h1) hl
    · exact h.elim
  · exact h.elim
end Go.Sym

namespace Go.Sym
variable {P : Program} {B B' : KN} {ι ι' : Nat -> Pl} {H H' : Heap} {D D' : Nat -> Prop} {w w' : World} {c : Ctx} {σ : AState} {Q : Exit -> AState -> Prop}
structure Shape where
  α : Type
  dflt : α
  T : α -> ST
  inv : α -> Prop
  meas : α -> Nat
  first : List (Nat × Nat) := []
  again : List (Nat × Nat) := []
  ffz : List Nat := []
  afz : List Nat := []
  /-- what the annotations within are told, behind the measure -/
  tag : List Nat := []
def Shape.at1 (s : Shape) : List (Nat × Nat) × List Nat := (s.first, s.ffz)
def Shape.at2 (s : Shape) : List (Nat × Nat) × List Nat := (s.again, s.afz)
abbrev Ui := List Shape
def Lu (E : List Nat) (sel : Shape -> List (Nat × Nat) × List Nat) (σ : AState) (K : (s : Shape) -> s.α -> Prop) : List Shape -> Prop
  | [] => False
  | s :: l => if (LI E (sel s).2 (sel s).1 (s.T s.dflt) σ).isSome then ∃ a, BTY (LI E (sel s).2 (sel s).1 (s.T a) σ) (K s a) else Lu E sel σ K l
theorem KL {E : List Nat} {sel : Shape -> List (Nat × Nat) × List Nat} {K : (s : Shape) -> s.α -> Prop} : ∀ {l : List Shape}, Lu E sel σ K l -> ∃ s ∈ l, ∃ a, BU (LI E (sel s).2 (sel s).1 (s.T a) σ) /\ K s a
  | [], h => h.elim
  | s :: l, h => by
    unfold Lu at h
    split at h
    · obtain ⟨a, h⟩ := h
      obtain ⟨h1, h2⟩ := lL h
      exact ⟨s, by simp, a, h1, h2⟩
    · obtain ⟨s', h1, h2⟩ := KL h
      exact ⟨s', by simp [h1], h2⟩
def allS (K : Shape -> Prop) : List Shape -> Prop
  | [] => True
  | [s] => K s
  | s :: l => K s /\ allS K l
theorem Tb {K : Shape -> Prop} : ∀ {l : List Shape}, allS K l -> ∀ s ∈ l, K s
  | [], _, s, h => by cases h
  | [t], h, s, hs => by simp at hs; subst hs; exact h
  | t :: u :: l, h, s, hs => by
    rcases List.mem_cons.1 hs with rfl | hs
    · exact h.1
    · exact Tb (l := u :: l) h.2 s hs
def Yr : Code -> Nat
  | .region id _ _ => id
  | .seq a _ => Yr a
  | .block _ b => Yr b
  | .cond _ t _ => Yr t
  | .loop b => Yr b
  | .scope b => Yr b
  | .rangeFunc _ _ a _ => Yr a
  | _ => 0
def BWI (Q : Exit -> AState -> Prop) : Exit -> AState -> Prop
  | .goto _, _ => False
  | e, σ => Q e σ
mutual
def frV (F : Sr) : AVal -> AVal
  | .own id k i n => match F id with
    | some (k2, _, get) => if Nat.beq k k2 then .d (.list k n (λ j => get (i + j)) false) else .any
    | none => .own id k i n
  | .agg cs => ATL (frL F cs)
  | .tup cs => BBX (frL F cs)
  | .fn f a b => .fn f (frL F a) (frL F b)
  | .opt g a => .opt g (frV F a)
  | a => a
def frL (F : Sr) : List AVal -> List AVal
  | [] => []
  | a :: r => frV F a :: frL F r
end
mutual
def frC (F : Sr) : AVal -> List Prop
  | .own id _ i n => match F id with
    | some (_, m, _) => [i + n <= m]
    | none => []
  | .agg cs => frCL F cs
  | .tup cs => frCL F cs
  | .fn _ a b => frCL F a ++ frCL F b
  | .opt _ a => frC F a
  | _ => []
def frCL (F : Sr) : List AVal -> List Prop
  | [] => []
  | a :: r => frC F a ++ frCL F r
end
theorem Hp (F : Sr) : ∀ l : List AVal, (frL F l).length = l.length
  | [] => rfl
  | a :: l => by simp [frL, Hp F l]
theorem CFO (x : Value) : vEq x x := by
  unfold vEq; split <;> simp_all
mutual
theorem MO : ∀ (x : DVal), CI x x
  | .v x => by simp only [CI]; exact CFO x
  | .agg xs => by simp only [CI]; exact bZ xs
  | .tup xs => by simp only [CI]; exact bZ xs
  | .list k n g e => by simp only [CI]; exact ⟨.inl trivial, trivial, id, λ i _ => MO (g i)⟩
  | .arr k n g => by simp only [CI]; exact ⟨trivial, trivial, λ i _ => MO (g i)⟩
  | .eref x c => by simp only [CI]; exact ⟨trivial, MO x⟩
  | .iface t x => by simp only [CI]; exact ⟨trivial, MO x⟩
  | .anyB => by simp only [CI]
theorem bZ : ∀ (l : List DVal), KQ l l
  | [] => trivial
  | x :: l => ⟨MO x, bZ l⟩
end
mutual
theorem D5 {F : Sr} (hF : Pg B B' ι F) : ∀ (a : AVal) (v : Value), BK (frC F a) -> VRel B ι D a v -> VRel B' ι D (frV F a) v
  | .own id k i n, v, h, hv => by
    simp only [frC] at h
    simp only [frV]
    split
    · rename_i k2 m get hf
      simp only [hf] at h
      split
      · rename_i hk
        have := Nat.eq_of_beq_eq_true hk; subst this
        exact .d (AWI hF hf rfl h (λ j _ => MO _) hv)
      · exact .any
    · exact hv.mono hF.1 λ i hi => ⟨hi, rfl⟩
  | .agg cs, v, h, hv => by
    simp only [frV]
    cases hv with
    | agg hl hr => exact Ta (by rw [Hp]; exact hl) (NB hF cs _ h hr)
  | .tup cs, v, h, hv => by
    simp only [frV]
    cases hv with
    | tup hl hr => exact BBN (by rw [Hp]; exact hl) (NB hF cs _ h hr)
  | .fn f a b, v, h, hv => by
    simp only [frV]
    simp only [frC] at h
    obtain ⟨h1, h2⟩ := AV h
    cases hv with
    | fn h3 h4 h5 h6 => exact .fn (by rw [Hp]; exact h3) (by rw [Hp]; exact h4) (NB hF a _ h1 h5) (NB hF b _ h2 h6)
  | .opt g a, v, h, hv => by
    simp only [frV]
    cases hv with
    | opt h1 h2 => exact .opt (λ hg => D5 hF a v h (h1 hg)) h2
  | .d x, v, _, hv => by simp only [frV]; exact hv.mono hF.1 λ i hi => ⟨hi, rfl⟩
  | .bptr i c, v, _, hv => by simp only [frV]; exact hv.mono hF.1 λ i hi => ⟨hi, rfl⟩
  | .rptr i k e c, v, _, hv => by simp only [frV]; exact hv.mono hF.1 λ i hi => ⟨hi, rfl⟩
  | .mref i, v, _, hv => by simp only [frV]; exact hv.mono hF.1 λ i hi => ⟨hi, rfl⟩
  | .any, v, _, _ => by simp only [frV]; exact .any
theorem NB {F : Sr} (hF : Pg B B' ι F) : ∀ (l : List AVal) (ys : Array Value), BK (frCL F l) -> (∀ (j : Nat) (x : AVal) (y : Value), l[j]? = some x -> ys[j]? = some y -> VRel B ι D x y) ->
    ∀ (j : Nat) (x : AVal) (y : Value), (frL F l)[j]? = some x -> ys[j]? = some y -> VRel B' ι D x y
  | [], ys, _, _, j, x, y, hx, _ => by simp [frL] at hx
  | a :: l, ys, h, hr, j, x, y, hx, hy => by
    obtain ⟨h1, h2⟩ := AV (by simpa only [frCL] using h)
    cases j with
    | zero =>
      simp only [frL, List.getElem?_cons_zero, Option.some.injEq] at hx
      subst hx
      exact D5 hF a y h1 (hr 0 a y rfl hy)
    | succ j =>
      simp only [frL, List.getElem?_cons_succ] at hx
      exact NB hF l (ys.extract 1 ys.size) h2 (λ i x y hx hy => hr (i + 1) x y (by simpa using hx) (by
        rw [Array.getElem?_extract] at hy
        split at hy
        · rw [Nat.add_comm]; exact hy
        · cases hy)) j x y hx (by
        have hlt := (Array.getElem?_eq_some_iff.1 hy).1
        rw [Array.getElem?_extract, if_pos (by omega), Nat.add_comm]; exact hy)
end
mutual
theorem VRel.keep {p : Nat -> Bool} (hp : ∀ i, p i = true -> D' i /\ ι' i = ι i) : ∀ (a : AVal) (v : Value), PK p a = true -> VRel B ι D a v -> VRel B ι' D' a v
  | .d x, v, _, hv => .d hv.d_inv
  | .agg cs, v, h, hv => by
    cases hv with
    | agg hl hr => exact .agg hl λ j x y hx hy => VRel.keepL hp cs (by simpa only [PK] using h) j x y hx (hr j x y hx hy)
  | .tup cs, v, h, hv => by
    cases hv with
    | tup hl hr => exact .tup hl λ j x y hx hy => VRel.keepL hp cs (by simpa only [PK] using h) j x y hx (hr j x y hx hy)
  | .bptr i c, v, h, hv => by cases hv; rw [<- (hp i (by simpa only [PK] using h)).2]; exact .bptr (hp i (by simpa only [PK] using h)).1
  | .rptr i k e c, v, h, hv => by cases hv; rw [<- (hp i (by simpa only [PK] using h)).2]; exact .rptr (hp i (by simpa only [PK] using h)).1
  | .own i k e n, v, h, hv => by
    cases hv with
    | own _ h1 h2 => rw [<- (hp i (by simpa only [PK] using h)).2] at h2 ⊢; exact .own (hp i (by simpa only [PK] using h)).1 h1 h2
  | .fn f a b, v, h, hv => by
    simp only [PK, Bool.and_eq_true] at h
    cases hv with
    | fn h1 h2 h3 h4 => exact .fn h1 h2 (λ j x y hx hy => VRel.keepL hp a h.1 j x y hx (h3 j x y hx hy)) λ j x y hx hy => VRel.keepL hp b h.2 j x y hx (h4 j x y hx hy)
  | .mref i, v, h, hv => by cases hv; rw [<- (hp i (by simpa only [PK] using h)).2]; exact .mref (hp i (by simpa only [PK] using h)).1
  | .any, v, _, _ => .any
  | .opt g a, v, h, hv => by
    cases hv with
    | opt h1 h2 => exact .opt (λ hg => VRel.keep hp a v (by simpa only [PK] using h) (h1 hg)) h2
theorem VRel.keepL {p : Nat -> Bool} (hp : ∀ i, p i = true -> D' i /\ ι' i = ι i) : ∀ (l : List AVal), DR p l = true -> ∀ (j : Nat) (x : AVal) (v : Value), l[j]? = some x -> VRel B ι D x v -> VRel B ι' D' x v
  | [], _, j, x, v, hx, _ => by simp at hx
  | a :: l, h, 0, x, v, hx, hv => by simp at hx; subst hx; simp only [DR, Bool.and_eq_true] at h; exact VRel.keep hp a v h.1 hv
  | a :: l, h, j + 1, x, v, hx, hv => by simp only [DR, Bool.and_eq_true] at h; exact VRel.keepL hp l h.2 j x v (by simpa using hx) hv
end
structure Pack where
  sl : List Nat
  ids : List Nat
  fz : List Nat := []
def Lg (F : Sr) : HCell -> HCell
  | .live (.box es) => .live (.box (frL F es))
  | x => x
def COB (F : Sr) : HCell -> List Prop
  | .live (.box es) => frCL F es
  | _ => []
def BOW (p : Nat -> Bool) : HCell -> Bool
  | .live o => okO p o
  | .dead => true
  | .none => false
def HL (p : Pack) (σ : AState) : ST :=
  ⟨p.sl.map λ t => (t, frV (FC σ.H p.fz) (σ.sl t)), p.ids.map λ i => (i, Lg (FC σ.H p.fz) (BQ σ.H p.fz i))⟩
def BWY (p : Pack) (σ : AState) : List Prop := (p.sl.flatMap λ t => frC (FC σ.H p.fz) (σ.sl t)) ++ p.ids.flatMap λ i => COB (FC σ.H p.fz) (BQ σ.H p.fz i)
def BAA (p : Pack) (E : List Nat) (s : ST) : Bool :=
  s.sl.all (λ x => PK (λ i => p.ids.contains i) x.2) && s.H.all (λ x => BOW (λ i => p.ids.contains i) x.2) && E.all (λ i => p.ids.contains i) && nodup p.ids
def Yz (o : Option Pack) (E : List Nat) (σ : AState) (K : AState -> Prop) : Prop := match o with
  | none => K σ
  | some p => if BAA p E (HL p σ) then andK (BWY p σ) (K (HL p σ).st) else False
theorem Ct {α : Type} {f : α -> List Prop} : ∀ {l : List α}, BK (l.flatMap f) -> ∀ x ∈ l, BK (f x)
  | [], _, x, hx => by cases hx
  | a :: l, h, x, hx => by
    rw [List.flatMap_cons] at h
    obtain ⟨h1, h2⟩ := AV h
    rcases List.mem_cons.1 hx with rfl | hx
    · exact h1
    · exact Ct h2 x hx
theorem Ma (f : Nat -> AVal) : ∀ (l : List Nat) (t : Nat), DT (l.map λ t => (t, f t)) t = .any ∨ (t ∈ l /\ DT (l.map λ t => (t, f t)) t = f t)
  | [], t => .inl rfl
  | a :: l, t => by
    simp only [List.map_cons, DT]
    split
    · rename_i h; subst h; exact .inr ⟨by simp, rfl⟩
    · rcases Ma f l t with h | ⟨h1, h2⟩
      · exact .inl h
      · exact .inr ⟨by simp [h1], h2⟩
theorem BNI (f : Nat -> HCell) : ∀ (l : List Nat) (i : Nat), IR (l.map λ i => (i, f i)) i = if l.contains i then some (f i) else none
  | [], i => rfl
  | a :: l, i => by
    simp only [List.map_cons, IR, BNI f l, List.contains_cons]
    by_cases h : i = a
    · subst h; simp
    · have : (i == a) = false := by simpa using h
      rw [if_neg h, this]; simp
theorem Moved.pack {B0 : KN} {ι0 : Nat -> Pl} {H0 : Heap} {w0 : World} {p : Pack} {E : List Nat} (hE : ∀ i, H0.dom i -> i ∈ E) (hok : BAA p E (HL p σ) = true) (hc : BK (BWY p σ)) (hm0 : Moved B0 ι0 H0 w0 B ι σ.H w) :
    ∃ B', Moved B0 ι0 H0 w0 B' ι (HL p σ).st.H w /\ (∀ t v, VRel B ι σ.H.dom (σ.sl t) v -> VRel B' ι (HL p σ).st.H.dom ((HL p σ).st.sl t) v) /\ (∀ i o, (HL p σ).st.H i = .live o -> ∃ o', σ.H i = .live o') /\
      (∀ b c, B b = some c -> B' b = some c) /\ ∀ i ∈ E, (HL p σ).st.H.dom i := by
  simp only [BAA, Bool.and_eq_true, List.all_eq_true] at hok
  obtain ⟨⟨⟨o1, o2⟩, o3⟩, o4⟩ := hok
  obtain ⟨c1, c2⟩ := AV hc
  obtain ⟨B', hk, hF⟩ := HS p.fz hm0.heap
  have hm := hm0.trans hk
  have hcell : ∀ i ∈ p.ids, BOW (λ i => p.ids.contains i) (Lg (FC σ.H p.fz) (BQ σ.H p.fz i)) = true := λ i hi => o2 _ (List.mem_map.2 ⟨i, hi, rfl⟩)
  have hH : ∀ i, (HL p σ).st.H i = if p.ids.contains i then Lg (FC σ.H p.fz) (BQ σ.H p.fz i) else .none := λ i => by
    show (IR _ i).getD .none = _
    rw [HL, BNI]; split <;> rfl
  have hdom : ∀ i, p.ids.contains i = true -> (HL p σ).st.H.dom i /\ ι i = ι i := λ i hi => by
    refine ⟨?_, rfl⟩
    unfold Heap.dom
    rw [hH, if_pos hi]
    have := hcell i (by simpa using hi)
    intro he; rw [he] at this; cases this
  have live : ∀ i o, (HL p σ).st.H i = .live o -> ∃ o', i ∈ p.ids /\ BQ σ.H p.fz i = .live o' /\ Lg (FC σ.H p.fz) (.live o') = .live o := λ i o hi => by
    rw [hH] at hi
    split at hi
    · rename_i hc
      cases hq : BQ σ.H p.fz i with
      | live o' => rw [hq] at hi; exact ⟨o', by simpa using hc, rfl, hi⟩
      | none => rw [hq] at hi; cases hi
      | dead => rw [hq] at hi; cases hi
    · cases hi
  refine ⟨B', ?_, λ t v hv => ?_, λ i o hi => by obtain ⟨o', _, ho, _⟩ := live i o hi; exact ⟨o', NA p.fz ho⟩, hF.1, λ i hi => (hdom i (o3 i hi)).1⟩
  · refine ⟨hm.bm, hm.bn, λ i hi => ?_, ⟨λ i o hi => ?_, λ i j o o' hi hj hij => ?_, λ i o hi => ?_, hm.heap.imm⟩, λ i o hi => ?_, hm.frame, hm.size, hm.calm⟩
    · exact ⟨(hdom i (o3 i (hE i hi))).1, (hm.im i hi).2⟩
    · obtain ⟨o', hid, ho, he⟩ := live i o hi
      have h1 := hm0.heap.obj _ _ (NA p.fz ho)
      generalize w.heap[(ι i).b]? = q at h1 ⊢
      have hok := hcell i hid
      rw [ho] at hok
      cases o' with
      | box es =>
        simp only [Lg, HCell.live.injEq] at he
        subst he
        have h2 := Ct c2 i hid
        rw [ho] at h2
        cases h1 with
        | box hsz hr =>
          refine .box (by rw [Hp]; exact hsz) λ j x z hx hz => ?_
          exact VRel.keepL hdom _ (by simpa only [BOW, Lg, okO] using hok) j x z hx (NB hF es _ h2 hr j x z hx hz)
      | row k n g =>
        simp only [Lg, HCell.live.injEq] at he
        subst he
        cases h1 with
        | row a b cc d => exact .row a b cc λ i j x y hi hx hy => (d i j x y hi hx hy).mono hF.1
      | imap q z hs g st pend =>
        simp only [Lg, HCell.live.injEq] at he
        subst he
        cases h1 with
        | imap a => exact .imap (a.mono hF.1)
    · obtain ⟨_, _, h1, _⟩ := live i o hi
      obtain ⟨_, _, h2, _⟩ := live j o' hj
      exact hm.heap.inj _ _ _ _ h1 h2 hij
    · obtain ⟨_, _, h1, _⟩ := live i o hi
      exact hm.heap.sep _ _ h1
    · obtain ⟨_, _, h1, _⟩ := live i o hi
      exact hm.own _ _ h1
  · rcases Ma (λ t => frV (FC σ.H p.fz) (σ.sl t)) p.sl t with h | ⟨h1, h2⟩
    · show VRel _ _ _ (DT _ t) _
      rw [HL, h]; exact .any
    · show VRel _ _ _ (DT _ t) _
      rw [HL, h2]
      exact VRel.keep hdom _ _ (o1 _ (List.mem_map.2 ⟨t, h1, rfl⟩)) (D5 hF _ _ (Ct c1 t h1) hv)
theorem Rel.pack {p : Pack} {E : List Nat} {a : Act} (hE : ∀ i, c.H0.dom i -> i ∈ E) (hok : BAA p E (HL p σ) = true) (hc : BK (BWY p σ)) (hR : Rel c B ι σ a w) : ∃ B', Rel c B' ι (HL p σ).st a w := by
  obtain ⟨B', h1, h2, h3, _⟩ := Moved.pack hE hok hc hR.mv
  obtain ⟨Ds, d1, d0, d2, d3⟩ := hR.defers
  refine ⟨B', λ t => h2 t _ (hR.slots t), hR.size, ⟨Ds, d1, d0, d2, λ D hD => ⟨(d3 D hD).1, (d3 D hD).2.here, λ i o hi => ?_⟩⟩, h1⟩
  obtain ⟨o', ho⟩ := h3 i o hi
  exact (d3 D hD).2.sep _ _ ho
theorem CodeE.noGoto {x : Code} (h : CodeE P c x (BWI Q) σ) : CodeE P c (.scope x) Q σ := by
  intro B ι a w hR
  refine Yh (Code.wpIn_mono (λ e a w hq => ?_) (h B ι a w hR))
  obtain ⟨B', ι', σ', hq, hR'⟩ := hq
  cases e with
  | goto l => exact hq.elim
  | _ => exact ⟨B', ι', σ', hq, hR'⟩
theorem BYV {l : List Prop} {K K' : Prop} (hK : K -> K') (h : andK l K) : andK l K' := by
  cases l with
  | nil => exact hK h
  | cons => exact ⟨h.1, hK h.2⟩
theorem vP {Γ : FuncId -> Option Spec} {mt : Bool} {base n : Nat} {ops : Array Oper} {draw : Bool} {K K' : AState -> Prop} (hK : ∀ σ, K σ -> K' σ) (h : Fs P Γ mt base n ops draw σ K) : Fs P Γ mt base n ops draw σ K' := by
  unfold Fs at *
  split at h
  · split at h
    · rename_i hc; rw [if_pos hc]; exact BYV (hK _) h
    · exact h.elim
  · exact h
end Go.Sym
