/- Guards: what stands under a guard looks only at what stands under the same. -/
import Derived.Test.YtoihhodbkimedaaSym7
set_option linter.unusedVariables false
set_option linter.unusedSimpArgs false
namespace Go.Sym
theorem Fj {a b : List Prop} : EG (a ++ b) ↔ EG a /\ EG b := by
  induction a with
  | nil => simp [EG]
  | cons p a ih => rw [List.cons_append, OD, OD, ih, and_assoc]
variable {P : Program} {B B' : Fr} {ι ι' : Nat -> Pl} {H H' : Heap} {D : Nat -> Prop} {w w' : World}
def BBZ (o : Oper) (t : Nat) : Bool := match o.dst with
  | some d => Nat.beq d t
  | none => false
theorem BEC {o : Oper} {t : Nat} (h : BBZ o t = true) : o.dst = some t := by
  unfold BBZ at h
  split at h
  · rename_i d hd; rw [hd, Nat.eq_of_beq_eq_true h]
  · cases h
def Vl : List Oper -> Bool
  | [] => true
  | o :: l => (match o.dst with
    | some d => l.all λ o' => !BBZ o' d
    | none => true) && Vl l
theorem sI {l : List Oper} (h : Vl l = true) {i k : Nat} {o o' : Oper} {t : Nat} (hik : i < k) (ho : l[i]? = some o) (ho' : l[k]? = some o') (ht : o.dst = some t) : o'.dst ≠ some t := by
  induction l generalizing i k with
  | nil => simp at ho
  | cons a l ih =>
    simp only [Vl, Bool.and_eq_true] at h
    cases k with
    | zero => omega
    | succ k =>
      rw [List.getElem?_cons_succ] at ho'
      cases i with
      | zero =>
        rw [List.getElem?_cons_zero] at ho
        cases ho
        have h1 := h.1
        rw [ht] at h1
        simp only [List.all_eq_true] at h1
        have := h1 o' (List.mem_of_getElem? ho')
        intro he
        simp [BBZ, he] at this
      | succ i => exact ih h.2 (i := i) (k := k) (by omega) (by rw [List.getElem?_cons_succ] at ho; exact ho) ho'
def lowL : List Oper -> Nat -> Bool
  | [], _ => true
  | o :: l, k => (match o.guard with
    | some q => Nat.blt q.1 k
    | none => true) && lowL l (k + 1)
theorem vY : ∀ {l : List Oper} {k : Nat}, lowL l k = true -> ∀ {i : Nat} {o : Oper} {q : Nat × Bool}, l[i]? = some o -> o.guard = some q -> q.1 < k + i
  | [], _, _, i, o, q, h, _ => by simp at h
  | a :: l, k, h, 0, o, q, ho, hq => by
    simp only [lowL, Bool.and_eq_true] at h
    simp at ho; subst ho
    have h1 := h.1
    rw [hq] at h1
    simpa using h1
  | a :: l, k, h, i + 1, o, q, ho, hq => by
    simp only [lowL, Bool.and_eq_true] at h
    have := vY h.2 (i := i) (by simpa using ho) hq
    omega
def wg : List Oper -> Nat -> Nat -> Option (Nat × Bool)
  | [], _, _ => none
  | _ :: _, 0, _ => none
  | o :: l, k + 1, t => if BBZ o t then o.guard else wg l k t
theorem BIO : ∀ {l : List Oper} {k t : Nat} {q : Nat × Bool}, wg l k t = some q -> ∃ i o, i < k /\ l[i]? = some o /\ o.dst = some t /\ o.guard = some q
  | [], k, t, q, h => by simp [wg] at h
  | o :: l, 0, t, q, h => by simp [wg] at h
  | o :: l, k + 1, t, q, h => by
    simp only [wg] at h
    split at h
    · rename_i hd; exact ⟨0, o, by omega, rfl, BEC hd, h⟩
    · obtain ⟨i, o', h1, h2, h3⟩ := BIO h
      exact ⟨i + 1, o', by omega, by simpa using h2, h3⟩
def gcov (ops : Array Oper) : Nat -> Nat × Bool -> Nat × Bool -> Bool
  | 0, _, _ => false
  | f + 1, q, q' => (Nat.beq q.1 q'.1 && (q.2 == q'.2)) || match (ops[q.1]?).bind (·.guard) with
    | some q2 => gcov ops f q2 q'
    | none => false
def GInv (ops : Array Oper) (sl : Nat -> AVal) (k : Nat) : Prop :=
  ∀ i o t q, i < k -> ops[i]? = some o -> o.dst = some t -> o.guard = some q -> ∃ g v, sl t = .opt g v /\ KQ ops sl q.1 q.2 = some g
theorem BDT {ops : Array Oper} {sl : Nat -> AVal} {j : Nat} {want g gd : Bool} {t : Nat} {v : AVal} (ht : (ops[j]?).bind (·.dst) = some t) (hs : sl t = .opt gd v) (h : KQ ops sl j want = some g) (hg : g = true) : gd = true := by
  unfold KQ at h
  rw [ht] at h
  simp only [hs] at h
  split at h <;> simp_all
theorem BEV {ops : Array Oper} {sl : Nat -> AVal} {j : Nat} {want g : Bool} (h : KQ ops sl j want = some g) : ∃ o t, ops[j]? = some o /\ o.dst = some t := by
  unfold KQ at h
  split at h
  · rename_i t ht
    cases hj : ops[j]? with
    | none => rw [hj] at ht; cases ht
    | some o => rw [hj] at ht; exact ⟨o, t, rfl, ht⟩
  · cases h
theorem ASI {ops : Array Oper} {sl : Nat -> AVal} {k : Nat} (hI : GInv ops sl k) (hl : lowL ops.toList 0 = true) : ∀ (f : Nat) (q q' : Nat × Bool) (g g' : Bool), gcov ops f q q' = true -> q.1 < k -> KQ ops sl q.1 q.2 = some g -> g = true -> KQ ops sl q'.1 q'.2 = some g' -> g' = true
  | 0, _, _, _, _, h, _, _, _, _ => by simp [gcov] at h
  | f + 1, q, q', g, g', h, hq, h1, hg, h2 => by
    simp only [gcov, Bool.or_eq_true, Bool.and_eq_true, JX, beq_iff_eq] at h
    rcases h with ⟨e1, e2⟩ | h
    · rw [<- e1, <- e2, h1] at h2; cases h2; exact hg
    · split at h
      · rename_i q2 hq2
        obtain ⟨o, t, ho, ht⟩ := BEV h1
        have hgq : o.guard = some q2 := by rw [ho] at hq2; exact hq2
        obtain ⟨gd, v, hs, hgd⟩ := hI q.1 o t q2 hq ho ht hgq
        have := BDT (by rw [ho]; exact ht) hs h1 hg
        have hlow := vY hl (i := q.1) (by simpa using ho) hgq
        exact ASI hI hl f q2 q' gd g' h (by omega) hgd this h2
      · cases h
def tagW (cv : Nat × Bool -> Bool) (ops : Array Oper) (k : Nat) (c : Prop) (x : Operand) (a : AVal) : List Prop := match a with
  | .opt g _ => match x with
    | .tmp t => match wg ops.toList k t with
      | some q => if cv q then [] else [c -> g = true]
      | none => [c -> g = true]
    | _ => [c -> g = true]
  | _ => []
theorem wJ {cv : Nat × Bool -> Bool} {ops : Array Oper} {sl : Nat -> AVal} {k : Nat} {c : Prop} {x : Operand} (hI : GInv ops sl k) (hcv : ∀ q g, cv q = true -> KQ ops sl q.1 q.2 = some g -> c -> g = true) (h : EG (tagW cv ops k c x (BY sl x))) : EG (Zu c (BY sl x)) := by
  generalize ha : BY sl x = a at h
  cases a with
  | opt g v =>
    simp only [tagW] at h
    split at h
    · rename_i t
      split at h
      · rename_i q hq
        split at h
        · rename_i hc
          obtain ⟨i, o, h1, h2, h3, h4⟩ := BIO hq
          obtain ⟨g', v', h5, h6⟩ := hI i o t q h1 (by simpa using h2) h3 h4
          have : sl t = .opt g v := ha
          rw [h5] at this; cases this
          exact λ c => hcv q _ hc h6 c
        · exact h
      · exact h
    · exact h
  | _ => trivial
def cvOwn (ops : Array Oper) (k : Nat) (gd : Option (Nat × Bool)) (q : Nat × Bool) : Bool := match gd with
  | some g => gcov ops (k + 1) g q
  | none => false
def AVX (ops : Array Oper) (k : Nat) (gd : Option (Nat × Bool)) (c : Operand) (want : Bool) (q : Nat × Bool) : Bool :=
  (match c, (ops[q.1]?).bind (·.dst) with
    | .tmp tc, some t => Nat.beq t tc && (q.2 == want)
    | _, _ => false) || cvOwn ops k gd q
def BJF (ops : Array Oper) (k : Nat) (sl : Nat -> AVal) (o : Oper) : List Prop := match o.op, o.guard with
  | .pick c a b, gd => match EW (BY sl c) with
    | .d (.v (.bool t)) => tagW (cvOwn ops k gd) ops k True c (BY sl c) ++ (tagW (AVX ops k gd c true) ops k (t = true) a (BY sl a) ++ tagW (AVX ops k gd c false) ops k (t = false) b (BY sl b))
    | _ => []
  | _, none => []
  | op, some q => op.operands.toList.flatMap λ x => tagW (cvOwn ops k (some q)) ops k True x (BY sl x)
def pP (sl : Nat -> AVal) (o : Oper) : List Prop := match o.op, o.guard with
  | .pick c a b, _ => match EW (BY sl c) with
    | .d (.v (.bool t)) => Zu True (BY sl c) ++ (Zu (t = true) (BY sl a) ++ Zu (t = false) (BY sl b))
    | _ => []
  | _, none => []
  | op, some _ => De (BY sl) op.operands.toList
theorem AJH {ops : Array Oper} {sl : Nat -> AVal} {k : Nat} {gd : Option (Nat × Bool)} {c : Operand} {want t : Bool} (hO : ∀ q g, cvOwn ops k gd q = true -> KQ ops sl q.1 q.2 = some g -> g = true) (hc : EW (BY sl c) = .d (.v (.bool t))) (ht : EG (Zu True (BY sl c))) (q : Nat × Bool) (g : Bool)
    (h : AVX ops k gd c want q = true) (hg : KQ ops sl q.1 q.2 = some g) (hw : t = want) : g = true := by
  simp only [AVX, Bool.or_eq_true] at h
  rcases h with h | h
  · split at h
    · rename_i tc t' hd
      simp only [Bool.and_eq_true, JX, beq_iff_eq] at h
      obtain ⟨rfl, h2⟩ := h
      unfold KQ at hg
      rw [hd] at hg
      simp only [BY] at hc ht
      subst hw
      rw [h2] at hg
      obtain ⟨v, hv⟩ : ∃ v, sl t' = v := ⟨_, rfl⟩
      simp only [hv] at hc ht hg
      cases v with
      | opt gc v' =>
        have : gc = true := ht trivial
        subst this
        simp only [EW] at hc; subst hc
        cases t <;> simp at hg <;> exact hg
      | d x => simp only [EW] at hc; cases hc; cases t <;> simp at hg <;> exact hg
      | _ => simp only [EW] at hc; cases hc
    · cases h
  · exact hO q g h hg
theorem BEI {ops : Array Oper} {sl : Nat -> AVal} {k : Nat} {o : Oper} (hI : GInv ops sl k) (hl : lowL ops.toList 0 = true) (ho : ops[k]? = some o) (hgd : ∀ q, o.guard = some q -> KQ ops sl q.1 q.2 = some true) (h : EG (BJF ops k sl o)) : EG (pP sl o) := by
  have hO : ∀ q g, cvOwn ops k o.guard q = true -> KQ ops sl q.1 q.2 = some g -> g = true := λ q g hc hg => by
    unfold cvOwn at hc
    split at hc
    · rename_i q0 hq0
      have := vY hl (i := k) (by simpa using ho) hq0
      exact ASI hI hl _ q0 q true g hc (by omega) (hgd q0 hq0) rfl hg
    · cases hc
  unfold BJF at h
  unfold pP
  split at h
  · rename_i c a b ho'
    split at h
    · rename_i t hc
      obtain ⟨h1, h2⟩ := CP h
      obtain ⟨h2, h3⟩ := CP h2
      have t1 := wJ hI (λ q g a b _ => hO q g a b) h1
      exact Fj.2 ⟨t1, Fj.2 ⟨wJ hI (λ q g a b c => AJH hO hc t1 q g a b c) h2, wJ hI (λ q g a b c => AJH hO hc t1 q g a b c) h3⟩⟩
    · trivial
  · trivial
  · rename_i q hgn hq
    rw [hgn] at hO
    generalize o.op.operands.toList = l at h
    induction l with
    | nil => trivial
    | cons x l ih =>
      rw [List.flatMap_cons] at h
      obtain ⟨h1, h2⟩ := CP h
      show EG (Zu True (BY sl x) ++ De (BY sl) l)
      exact Fj.2 ⟨wJ hI (λ q g a b _ => hO q g a b) h1, ih h2⟩
theorem GInv.next {ops : Array Oper} {sl : Nat -> AVal} {k : Nat} {o : Oper} {v : AVal} (hI : GInv ops sl k) (hl : lowL ops.toList 0 = true) (hd : Vl ops.toList = true) (ho : ops[k]? = some o) (hv : ∀ q, o.guard = some q -> ∃ g v', v = .opt g v' /\ KQ ops sl q.1 q.2 = some g) (sl' : Nat -> AVal)
    (hsl : ∀ t, sl' t = if o.dst = some t then v else sl t) : GInv ops sl' (k + 1) := by
  have hk : ∀ j want, j < k -> KQ ops sl' j want = KQ ops sl j want := λ j want hj => by
    unfold KQ
    cases hjo : ops[j]? with
    | none => rfl
    | some oj =>
      simp only [Option.bind_some]
      cases hdj : oj.dst with
      | none => rfl
      | some t =>
        simp only
        rw [hsl t, if_neg (sI hd hj (by simpa using hjo) (by simpa using ho) hdj)]
  intro i o' t q hi ho' ht hq
  have hlow := vY hl (i := i) (by simpa using ho') hq
  rcases Nat.lt_or_ge i k with hik | hik
  · obtain ⟨g, v', h1, h2⟩ := hI i o' t q hik ho' ht hq
    refine ⟨g, v', ?_, by rw [hk _ _ (by omega)]; exact h2⟩
    rw [hsl t, if_neg (sI hd hik (by simpa using ho') (by simpa using ho) ht)]
    exact h1
  · have : i = k := by omega
    subst this
    rw [ho] at ho'; cases ho'
    obtain ⟨g, v', h1, h2⟩ := hv q hq
    exact ⟨g, v', by rw [hsl t, if_pos ht]; exact h1, by rw [hk _ _ (by omega)]; exact h2⟩
end Go.Sym

namespace Go.Sym
variable {P : Program} {B B' : Fr} {ι ι' : Nat -> Pl} {H H' : Heap} {D : Nat -> Prop} {w w' : World} {c : Ctx} {σ : AState} {Q : Exit -> AState -> Prop}
structure CallR where
  ids : List Nat
  val : AVal
  upd : List (Nat × HCell)
  pre : List Prop
abbrev Spec := List AVal -> Heap -> Nat -> Option CallR
def AL (P : Program) (g : FuncId) (s : Spec) : Prop := ∀ as H r x, s as H r = some x -> EG x.pre -> AYW P g as r (x.ids.map λ i => (i, H i)) x.val x.upd
def isNone : HCell -> Bool
  | .none => true
  | _ => false
theorem Vo {c : HCell} (h : isNone c = true) : c = .none := by cases c <;> first | rfl | cases h
def bQ (H : Heap) (r : Nat) : Bool := (List.range 16).all λ i => isNone (H (r + i))
theorem Va {r : Nat} (h : bQ H r = true) : ∀ i, r <= i -> i < r + 16 -> H i = .none := λ i h1 h2 => by
  simp only [bQ, List.all_eq_true, List.mem_range] at h
  have := Vo (h (i - r) (by omega))
  rwa [show r + (i - r) = i by omega] at this
def BAN (n : Nat) (o : Oper) : Bool := match o.dst with
  | some d => Nat.blt d n
  | none => true
theorem L6 {n : Nat} {o : Oper} (h : BAN n o = true) : ∀ d, o.dst = some d -> d < n := by
  intro d hd
  simpa [BAN, hd] using h
structure Stp where
  val : AVal
  upd : List (Nat × HCell)
  touch : List Nat
  pre : List Prop
def ASE (Γ : FuncId -> Option Spec) (r : Nat) (f : AVal) (args : List AVal) (H : Heap) : Option CallR := match f with
  | .fn (.func g) first caps => match Γ g with
    | some s => s (first ++ args ++ caps) H r
    | none => none
  | _ => none
def gopB (P : Program) (r : Nat) (ρ : Operand -> AVal) (H : Heap) (g : Bool) (op : Op) : Option (AVal × List Prop) := match op with
  | .pick c a b => match EW (ρ c) with
    | .d (.v (.bool t)) => some (AMC t (EW (ρ a)) (EW (ρ b)), [])
    | _ => none
  | .buildSlice t len ps => match WC P r t len (ps.toList.map λ p => (p.1, EW (ρ p.2))) with
    | some ⟨_, [(_, .live (.row k n get))], _⟩ => some (.d (.list k n get true), [])
    | _ => none
  | op => match opA P false r (λ x => EW (ρ x)) H op with
    | some ⟨v, [], p⟩ => some (v, rW g p)
    | _ => none
def BYO (P : Program) (Γ : FuncId -> Option Spec) (mt : Bool) (r : Nat) (σ : AState) : Op -> Option Stp
  | .call ⟨.value f, args, _⟩ => match ASE Γ r (BY σ.sl f) (args.toList.map (BY σ.sl)) σ.H with
    | some x => if bQ σ.H r then some ⟨x.val, x.upd, x.ids ++ (List.range 16).map (r + ·), x.pre⟩ else none
    | none => none
  | .call ⟨.invoke x m, args, _⟩ => match BY σ.sl x with
    | .d (.iface t d) => match AKZ P t m with
      | some g => match ASE Γ r (.fn (.func g) [.d d] []) (args.toList.map (BY σ.sl)) σ.H with
        | some x => if bQ σ.H r then some ⟨x.val, x.upd, x.ids ++ (List.range 16).map (r + ·), x.pre⟩ else none
        | none => none
      | none => none
    | _ => none
  | .pick c a b => match BY σ.sl c with
    | .d (.v (.bool t)) => if isNone (σ.H r) then some ⟨AMC t (EW (BY σ.sl a)) (EW (BY σ.sl b)), [], r :: aZ (BY σ.sl) (.pick c a b), []⟩ else none
    | _ => none
  | op => match opA P mt r (BY σ.sl) σ.H op with
    | some e => if isNone (σ.H r) then some ⟨e.val, e.upd, r :: aZ (BY σ.sl) op, e.pre⟩ else none
    | none => none
def stepG (P : Program) (Γ : FuncId -> Option Spec) (r : Nat) (σ : AState) (g : Bool) : Op -> Option (AVal × List Nat × List Prop)
  | .call ⟨.value f, args, _⟩ => match ASE Γ r (EW (BY σ.sl f)) (args.toList.map λ x => EW (BY σ.sl x)) σ.H with
    | some ⟨ids, v, [], p⟩ => if bQ σ.H r then some (v, ids ++ (List.range 16).map (r + ·), rW g p) else none
    | _ => none
  | op => match gopB P r (BY σ.sl) σ.H g op with
    | some (v, p) => if isNone (σ.H r) then some (v, r :: aZ (λ x => EW (BY σ.sl x)) op, p) else none
    | none => none
def ALV (P : Program) (Γ : FuncId -> Option Spec) (mt : Bool) (ops : Array Oper) (r : Nat) (σ : AState) (o : Oper) : Option Stp := match o.guard with
  | none => BYO P Γ mt r σ o.op
  | some (j, want) => match KQ ops σ.sl j want with
    | some g => match stepG P Γ r σ g o.op with
      | some (v, touch, p) => some ⟨.opt g v, [], touch, p⟩
      | none => none
    | none => none
theorem sU {g : Bool} {l : List Prop} (h : g = true -> EG l) : EG (rW g l) := by
  cases l with
  | nil => trivial
  | cons => exact h
theorem APY {op : Op} (h : ∀ c a b, op = .pick c a b -> False) (sl : Nat -> AVal) (o : Oper) (ho : o.op = op) (q : Nat × Bool) (hq : o.guard = some q) : pP sl o = De (BY sl) op.operands.toList := by
  unfold pP
  rw [ho, hq]
  cases op <;> first | rfl | exact (h _ _ _ rfl).elim
def GOk (P : Program) (Γ : FuncId -> Option Spec) : Prop := ∀ g s, Γ g = some s -> AL P g s
theorem kW {Γ : FuncId -> Option Spec} (hΓ : GOk P Γ) {r : Nat} {f : AVal} {args : List AVal} {x : CallR} (h : ASE Γ r f args H = some x) : ∃ g first caps, f = .fn (.func g) first caps /\ (EG x.pre -> AYW P g (first ++ args ++ caps) r (x.ids.map λ i => (i, H i)) x.val x.upd) := by
  unfold ASE at h
  split at h
  · rename_i g first caps
    split at h
    · rename_i s hs
      exact ⟨g, first, caps, rfl, hΓ g s hs _ _ _ _ h⟩
    · cases h
  · cases h
theorem jV (l : List Nat) (H : Heap) : ∀ p ∈ l.map (λ i => (i, H i)), H p.1 = p.2 := λ p hp => by
  obtain ⟨i, _, rfl⟩ := List.mem_map.1 hp; rfl
theorem BLG {r : Nat} {sl : Nat -> AVal} {g : Bool} {o : Oper} {q : Nat × Bool} {v : AVal} {p : List Prop} (h : gopB P r (BY sl) H g o.op = some (v, p)) (hq : o.guard = some q) (hp : EG p) (ht : g = true -> EG (pP sl o)) : ∃ p', gopA P r (BY sl) H g o.op = some (v, p') /\ EG p' := by
  unfold gopB at h
  split at h
  · rename_i c a b ho
    split at h
    · rename_i t hc
      cases h
      refine ⟨rW g (Zu True (BY sl c) ++ (Zu (t = true) (BY sl a) ++ Zu (t = false) (BY sl b))), by rw [ho]; simp only [gopA, hc], sU λ hg => ?_⟩
      have := ht hg
      unfold pP at this
      rw [ho, hq] at this
      simp only [hc] at this
      exact this
    · cases h
  · rename_i t len ps ho
    split at h
    · rename_i hb
      cases h
      refine ⟨rW g (De (BY sl) (Op.buildSlice t len ps).operands.toList), by rw [ho]; simp only [gopA, hb], sU λ hg => ?_⟩
      have := ht hg
      rw [APY (λ _ _ _ h => by cases h) sl o ho _ hq] at this
      exact this
    · cases h
  · rename_i h1 h2
    split at h
    · rename_i e1 e2 ho
      cases h
      refine ⟨rW g (De (BY sl) o.op.operands.toList ++ e2), ?_, sU λ hg => ?_⟩
      · unfold gopA
        split
        · rename_i c a b hop; exact (h1 c a b hop).elim
        · rename_i t len ps hop; exact (h2 t len ps hop).elim
        · rw [ho]
      · have := ht hg
        rw [APY (λ c a b h => h1 c a b h) sl o rfl _ hq] at this
        exact Fj.2 ⟨this, Mf hp hg⟩
    · cases h
theorem BCC {Γ : FuncId -> Option Spec} {mt : Bool} {ops : Array Oper} {r : Nat} {o : Oper} {s : Stp} (h : ALV P Γ mt ops r σ o = some s) (q : Nat × Bool) (hq : o.guard = some q) : ∃ g v, s.val = .opt g v /\ KQ ops σ.sl q.1 q.2 = some g := by
  unfold ALV at h
  rw [hq] at h
  simp only at h
  split at h
  · rename_i g hg
    split at h
    · cases h; exact ⟨g, _, rfl, hg⟩
    · cases h
  · cases h
theorem tX {Γ : FuncId -> Option Spec} (hΓ : GOk P Γ) {mt : Bool} {ops : Array Oper} {r : Nat} {o : Oper} {s : Stp} (h : ALV P Γ mt ops r σ o = some s) (hp : EG s.pre) (ht : (∀ q, o.guard = some q -> KQ ops σ.sl q.1 q.2 = some true) -> EG (pP σ.sl o)) : StepO P mt ops r σ o s.val s.upd s.touch := by
  have mp : ∀ (l : List Nat), (l.map λ i => (i, σ.H i)).map (·.1) = l := λ l => by
    induction l with
    | nil => rfl
    | cons a l ih => simp only [List.map_cons, ih]
  have ht' : ∀ {j want g}, o.guard = some (j, want) -> KQ ops σ.sl j want = some g -> g = true -> EG (pP σ.sl o) := λ hg hw hgt => ht λ q hq => by
    rw [hg] at hq; cases hq; rw [hw, hgt]
  unfold ALV at h
  split at h
  · rename_i hg
    unfold BYO at h
    split at h
    · rename_i f args ats ho
      split at h
      · rename_i x hx
        split at h
        · rename_i hf
          cases h
          obtain ⟨g, first, caps, he, hc⟩ := kW hΓ hx
          have := StepO.call (mt := mt) (ops := ops) hg ho he (hc hp) (jV _ _) (Va hf)
          rw [mp] at this; exact this
        · cases h
      · cases h
    · rename_i y m args ats ho
      split at h
      · rename_i t d hy
        split at h
        · rename_i g0 hm
          split at h
          · rename_i x hx
            split at h
            · rename_i hf
              cases h
              obtain ⟨g, first, caps, he, hc⟩ := kW hΓ hx
              cases he
              have hc' := hc hp
              simp only [List.cons_append, List.nil_append, List.append_nil] at hc'
              have := StepO.inv (mt := mt) (ops := ops) hg ho hy hm hc' (jV _ _) (Va hf)
              rw [mp] at this; exact this
            · cases h
          · cases h
        · cases h
      · cases h
    · rename_i c a b ho
      split at h
      · rename_i t hc
        split at h
        · rename_i hf
          cases h
          have h0 := ht λ q hq => by rw [hg] at hq; cases hq
          have h1 : EG (Zu (t = true) (BY σ.sl a) ++ Zu (t = false) (BY σ.sl b)) := by
            unfold pP at h0
            rw [ho, hg] at h0
            simp only [hc, EW, Zu, List.nil_append] at h0
            exact h0
          have := StepO.op (P := P) (mt := mt) (ops := ops) (r := r) (σ := σ) (o := o) (e := ⟨AMC t (EW (BY σ.sl a)) (EW (BY σ.sl b)), [], Zu (t = true) (BY σ.sl a) ++ Zu (t = false) (BY σ.sl b)⟩) hg (by rw [ho]; simp only [opA, hc]) h1 (Vo hf)
          rw [ho] at this; exact this
        · cases h
      · cases h
    · split at h
      · rename_i e he
        split at h
        · rename_i hf
          cases h
          exact .op hg he hp (Vo hf)
        · cases h
      · cases h
  · rename_i j want hg
    split at h
    · rename_i g hw
      split at h
      · rename_i v touch p hst
        cases h
        unfold stepG at hst
        split at hst
        · rename_i f args ats ho
          split at hst
          · rename_i ids v p hx
            split at hst
            · rename_i hf
              cases hst
              obtain ⟨g', first, caps, he, hc⟩ := kW hΓ hx
              have := StepO.gcall (mt := mt) (ops := ops) (r := r) hg hw ho he (λ h => by
                have := ht' hg hw h
                rw [APY (λ _ _ _ h => by cases h) σ.sl o ho _ hg] at this
                rw [ho]; exact this) (λ h => hc (Mf hp h)) (jV _ _) (Va hf)
              rw [mp] at this; exact this
            · cases hst
          · cases hst
        · split at hst
          · rename_i v p he
            split at hst
            · rename_i hf
              cases hst
              obtain ⟨p', h1, h2⟩ := BLG (sl := σ.sl) (o := o) he hg hp (ht' hg hw)
              exact .gop hg hw h1 h2 (Vo hf)
            · cases hst
          · cases hst
      · cases h
    · cases h
structure Run where
  st : AState
  pre : List Prop
  tab : List (List Nat × List Nat)
theorem AKS (sl : Nat -> AVal) (dst : Option Tmp) (v : AVal) (t : Nat) : eZ sl dst v t = if dst = some t then v else sl t := by
  cases dst with
  | none => simp [eZ]
  | some d =>
    by_cases h : t = d
    · simp [eZ, h]
    · simp [eZ, h, Ne.symm h]
def tagC (ops : Array Oper) (k : Nat) (σ : AState) (o : Oper) : List Prop := match o.guard with
  | none => BJF ops k σ.sl o
  | some (j, want) => match KQ ops σ.sl j want with
    | some g => rW g (BJF ops k σ.sl o)
    | none => []
def AQW (P : Program) (Γ : FuncId -> Option Spec) (mt : Bool) (ops : Array Oper) (base n : Nat) : List Oper -> Nat -> AState -> Option Run
  | [], _, σ => some ⟨σ, [], []⟩
  | o :: l, k, σ => if BAN n o then match ALV P Γ mt ops (base + 16 * k) σ o with
      | some s => match AQW P Γ mt ops base n l (k + 1) (σ.app o.dst s.val s.upd) with
        | some x => some ⟨x.st, tagC ops k σ o ++ (s.pre ++ x.pre), (s.touch, s.upd.map (·.1)) :: x.tab⟩
        | none => none
      | none => none
    else none
def BGZ (l : List (List Nat × List Nat)) : xC := λ k => l.getD k ([], [])
theorem BLA {ops : Array Oper} {k : Nat} {o : Oper} (hI : GInv ops σ.sl k) (hl : lowL ops.toList 0 = true) (ho : ops[k]? = some o) (h : EG (tagC ops k σ o)) (hg : ∀ q, o.guard = some q -> KQ ops σ.sl q.1 q.2 = some true) : EG (pP σ.sl o) := by
  refine BEI hI hl ho hg ?_
  unfold tagC at h
  split at h
  · exact h
  · rename_i j want hq
    have := hg _ hq
    simp only at this
    rw [this] at h
    exact Mf h rfl
theorem ACC {Γ : FuncId -> Option Spec} (hΓ : GOk P Γ) {mt : Bool} {ops : Array Oper} {base n : Nat} {K : AState -> Prop} (hl : lowL ops.toList 0 = true) (hd : Vl ops.toList = true) : ∀ (l : List Oper) (σ : AState) (x : Run) (T0 : List (List Nat × List Nat)), ops.toList.drop T0.length = l -> GInv ops σ.sl T0.length -> AQW P Γ mt ops base n l T0.length σ = some x -> EG x.pre -> K x.st ->
    LexT P mt ops base n (BGZ (T0 ++ x.tab)) K l T0.length σ
  | [], σ, x, T0, _, _, h, _, hK => by simp only [AQW, Option.some.injEq] at h; subst h; exact hK
  | o :: l, σ, x, T0, hdr, hI, h, hp, hK => by
    simp only [AQW] at h
    have ho : ops[T0.length]? = some o := by
      have : (ops.toList.drop T0.length)[0]? = some o := by rw [hdr]; rfl
      simpa using this
    split at h
    · rename_i hdo
      split at h
      · rename_i s hs
        split at h
        · rename_i y hy
          cases h
          obtain ⟨hp0, hp1⟩ := CP hp
          obtain ⟨hp1, hp2⟩ := CP hp1
          have hI' : GInv ops (σ.app o.dst s.val s.upd).sl (T0.length + 1) := hI.next hl hd ho (λ q hq => BCC hs q hq) _ (AKS _ _ _)
          have ih := ACC hΓ hl hd l _ y (T0 ++ [(s.touch, s.upd.map (·.1))]) (by
            have := congrArg List.tail hdr
            simpa using this) (by simpa using hI') (by simpa using hy) hp2 hK
          have ht : BGZ (T0 ++ ((s.touch, s.upd.map (·.1)) :: y.tab)) T0.length = (s.touch, s.upd.map (·.1)) := by simp [BGZ]
          refine ⟨s.val, s.upd, s.touch, tX hΓ hs hp1 (BLA hI hl ho hp0), L6 hdo, by rw [ht], by rw [ht], ?_⟩
          simpa using ih
        · cases h
      · cases h
    · cases h
theorem ASC {mt : Bool} {ops : Array Oper} {base n : Nat} {T : xC} {K : AState -> Prop} : ∀ (l : List Oper) (k : Nat) (σ : AState), LexT P mt ops base n T K l k σ -> LexE P mt ops base n K l k σ
  | [], _, _, h => h
  | o :: l, k, σ, h => by
    obtain ⟨val, upd, touch, h1, h2, _, _, h5⟩ := h
    exact ⟨val, upd, touch, h1, h2, ASC l (k + 1) _ h5⟩
def nN (P : Program) (Γ : FuncId -> Option Spec) (mt : Bool) (base n : Nat) (ops : Array Oper) (draw : Bool) (σ : AState) (K : AState -> Prop) : Prop :=
  match AQW P Γ mt ops base n ops.toList 0 σ with
  | some x => if lowL ops.toList 0 && Vl ops.toList && (!draw || lexFromT .any ops (BGZ x.tab) ops.size 0 (Array.replicate ops.size false)) then andK x.pre (K x.st) else False
  | none => False
theorem xJ {Γ : FuncId -> Option Spec} (hΓ : GOk P Γ) (hm : P.follows .mixedOrders = true) {mt : Bool} {base : Nat} {id : Nat} {ops : Array Oper} {draw : Bool} (h : nN P Γ mt base c.n ops draw σ (Q .normal)) : CodeE P c (.region id ops draw) Q σ := by
  unfold nN at h
  split at h
  · rename_i x hx
    split at h
    · rename_i hc
      simp only [Bool.and_eq_true] at hc
      obtain ⟨⟨hl, hd⟩, h1⟩ := hc
      obtain ⟨h2, h3⟩ := VF h
      have hl := ACC hΓ (K := Q .normal) hl hd ops.toList σ x [] (by simp) (λ i _ _ _ hi => by simp at hi) (by simpa using hx) h2 h3
      simp only [List.nil_append, List.length_nil] at hl
      cases draw with
      | false => exact BEB (ASC _ _ _ hl)
      | true => exact AZE hm (by simpa using h1) hl
    · exact h.elim
  · exact h.elim
end Go.Sym

namespace Go.Sym
variable {P : Program} {B B' : Fr} {ι ι' : Nat -> Pl} {H H' : Heap} {D D' : Nat -> Prop} {w w' : World} {c : Ctx} {σ : AState} {Q : Exit -> AState -> Prop}
structure Shape where
  α : Type
  dflt : α
  T : α -> ST
  inv : α -> Prop
  meas : α -> Nat
  first : List (Nat × Nat) := []
  again : List (Nat × Nat) := []
  ffz : List Nat := []
  afz : List Nat := []
  /-- what the annotations within are told, behind the measure -/
  tag : List Nat := []
def Shape.at1 (s : Shape) : List (Nat × Nat) × List Nat := (s.first, s.ffz)
def Shape.at2 (s : Shape) : List (Nat × Nat) × List Nat := (s.again, s.afz)
abbrev kV := List Shape
def Dm (E : List Nat) (sel : Shape -> List (Nat × Nat) × List Nat) (σ : AState) (K : (s : Shape) -> s.α -> Prop) : List Shape -> Prop
  | [] => False
  | s :: l => if (ZX E (sel s).2 (sel s).1 (s.T s.dflt) σ).isSome then ∃ a, BIP (ZX E (sel s).2 (sel s).1 (s.T a) σ) (K s a) else Dm E sel σ K l
theorem TE {E : List Nat} {sel : Shape -> List (Nat × Nat) × List Nat} {K : (s : Shape) -> s.α -> Prop} : ∀ {l : List Shape}, Dm E sel σ K l -> ∃ s ∈ l, ∃ a, GO (ZX E (sel s).2 (sel s).1 (s.T a) σ) /\ K s a
  | [], h => h.elim
  | s :: l, h => by
    unfold Dm at h
    split at h
    · obtain ⟨a, h⟩ := h
      obtain ⟨h1, h2⟩ := yS h
      exact ⟨s, by simp, a, h1, h2⟩
    · obtain ⟨s', h1, h2⟩ := TE h
      exact ⟨s', by simp [h1], h2⟩
def allS (K : Shape -> Prop) : List Shape -> Prop
  | [] => True
  | [s] => K s
  | s :: l => K s /\ allS K l
theorem Oj {K : Shape -> Prop} : ∀ {l : List Shape}, allS K l -> ∀ s ∈ l, K s
  | [], _, s, h => by cases h
  | [t], h, s, hs => by simp at hs; subst hs; exact h
  | t :: u :: l, h, s, hs => by
    rcases List.mem_cons.1 hs with rfl | hs
    · exact h.1
    · exact Oj (l := u :: l) h.2 s hs
def Lo : Code -> Nat
  | .region id _ _ => id
  | .seq a _ => Lo a
  | .block _ b => Lo b
  | .cond _ t _ => Lo t
  | .loop b => Lo b
  | .scope b => Lo b
  | .rangeFunc _ _ a _ => Lo a
  | _ => 0
def AKP (Q : Exit -> AState -> Prop) : Exit -> AState -> Prop
  | .goto _, _ => False
  | e, σ => Q e σ
mutual
def frV (F : wO) : AVal -> AVal
  | .own id k i n => match F id with
    | some (k2, _, get) => if Nat.beq k k2 then .d (.list k n (λ j => get (i + j)) false) else .any
    | none => .own id k i n
  | .agg cs => AQF (frL F cs)
  | .tup cs => ATK (frL F cs)
  | .fn f a b => .fn f (frL F a) (frL F b)
  | .opt g a => .opt g (frV F a)
  | a => a
def frL (F : wO) : List AVal -> List AVal
  | [] => []
  | a :: r => frV F a :: frL F r
end
mutual
def frC (F : wO) : AVal -> List Prop
  | .own id _ i n => match F id with
    | some (_, m, _) => [i + n <= m]
    | none => []
  | .agg cs => frCL F cs
  | .tup cs => frCL F cs
  | .fn _ a b => frCL F a ++ frCL F b
  | .opt _ a => frC F a
  | _ => []
def frCL (F : wO) : List AVal -> List Prop
  | [] => []
  | a :: r => frC F a ++ frCL F r
end
theorem cN (F : wO) : ∀ l : List AVal, (frL F l).length = l.length
  | [] => rfl
  | a :: l => by simp [frL, cN F l]
theorem BMK (x : Value) : vEq x x := by
  unfold vEq; split <;> simp_all
mutual
theorem Re : ∀ (x : DVal), HQ x x
  | .v x => by simp only [HQ]; exact BMK x
  | .agg xs => by simp only [HQ]; exact G8 xs
  | .tup xs => by simp only [HQ]; exact G8 xs
  | .list k n g e => by simp only [HQ]; exact ⟨.inl trivial, trivial, id, λ i _ => Re (g i)⟩
  | .arr k n g => by simp only [HQ]; exact ⟨trivial, trivial, λ i _ => Re (g i)⟩
  | .eref x c => by simp only [HQ]; exact ⟨trivial, Re x⟩
  | .iface t x => by simp only [HQ]; exact ⟨trivial, Re x⟩
  | .anyB => by simp only [HQ]
theorem G8 : ∀ (l : List DVal), Ja l l
  | [] => trivial
  | x :: l => ⟨Re x, G8 l⟩
end
mutual
theorem ADG {F : wO} (hF : tB B B' ι F) : ∀ (a : AVal) (v : Value), EG (frC F a) -> VRel B ι D a v -> VRel B' ι D (frV F a) v
  | .own id k i n, v, h, hv => by
    simp only [frC] at h
    simp only [frV]
    split
    · rename_i k2 m get hf
      simp only [hf] at h
      split
      · rename_i hk
        have := Nat.eq_of_beq_eq_true hk; subst this
        exact .d (AMN hF hf rfl h (λ j _ => Re _) hv)
      · exact .any
    · exact hv.mono hF.1 λ i hi => ⟨hi, rfl⟩
  | .agg cs, v, h, hv => by
    simp only [frV]
    cases hv with
    | agg hl hr => exact wE (by rw [cN]; exact hl) (Ik hF cs _ h hr)
  | .tup cs, v, h, hv => by
    simp only [frV]
    cases hv with
    | tup hl hr => exact ATE (by rw [cN]; exact hl) (Ik hF cs _ h hr)
  | .fn f a b, v, h, hv => by
    simp only [frV]
    simp only [frC] at h
    obtain ⟨h1, h2⟩ := CP h
    cases hv with
    | fn h3 h4 h5 h6 => exact .fn (by rw [cN]; exact h3) (by rw [cN]; exact h4) (Ik hF a _ h1 h5) (Ik hF b _ h2 h6)
  | .opt g a, v, h, hv => by
    simp only [frV]
    cases hv with
    | opt h1 h2 => exact .opt (λ hg => ADG hF a v h (h1 hg)) h2
  | .d x, v, _, hv => by simp only [frV]; exact hv.mono hF.1 λ i hi => ⟨hi, rfl⟩
  | .bptr i c, v, _, hv => by simp only [frV]; exact hv.mono hF.1 λ i hi => ⟨hi, rfl⟩
  | .rptr i k e c, v, _, hv => by simp only [frV]; exact hv.mono hF.1 λ i hi => ⟨hi, rfl⟩
  | .mref i, v, _, hv => by simp only [frV]; exact hv.mono hF.1 λ i hi => ⟨hi, rfl⟩
  | .any, v, _, _ => by simp only [frV]; exact .any
theorem Ik {F : wO} (hF : tB B B' ι F) : ∀ (l : List AVal) (ys : Array Value), EG (frCL F l) -> (∀ (j : Nat) (x : AVal) (y : Value), l[j]? = some x -> ys[j]? = some y -> VRel B ι D x y) ->
    ∀ (j : Nat) (x : AVal) (y : Value), (frL F l)[j]? = some x -> ys[j]? = some y -> VRel B' ι D x y
  | [], ys, _, _, j, x, y, hx, _ => by simp [frL] at hx
  | a :: l, ys, h, hr, j, x, y, hx, hy => by
    obtain ⟨h1, h2⟩ := CP (by simpa only [frCL] using h)
    cases j with
    | zero =>
      simp only [frL, List.getElem?_cons_zero, Option.some.injEq] at hx
      subst hx
      exact ADG hF a y h1 (hr 0 a y rfl hy)
    | succ j =>
      simp only [frL, List.getElem?_cons_succ] at hx
      exact Ik hF l (ys.extract 1 ys.size) h2 (λ i x y hx hy => hr (i + 1) x y (by simpa using hx) (by
        rw [Array.getElem?_extract] at hy
        split at hy
        · rw [Nat.add_comm]; exact hy
        · cases hy)) j x y hx (by
        have hlt := (Array.getElem?_eq_some_iff.1 hy).1
        rw [Array.getElem?_extract, if_pos (by omega), Nat.add_comm]; exact hy)
end
mutual
theorem VRel.keep {p : Nat -> Bool} (hp : ∀ i, p i = true -> D' i /\ ι' i = ι i) : ∀ (a : AVal) (v : Value), Rv p a = true -> VRel B ι D a v -> VRel B ι' D' a v
  | .d x, v, _, hv => .d hv.d_inv
  | .agg cs, v, h, hv => by
    cases hv with
    | agg hl hr => exact .agg hl λ j x y hx hy => VRel.keepL hp cs (by simpa only [Rv] using h) j x y hx (hr j x y hx hy)
  | .tup cs, v, h, hv => by
    cases hv with
    | tup hl hr => exact .tup hl λ j x y hx hy => VRel.keepL hp cs (by simpa only [Rv] using h) j x y hx (hr j x y hx hy)
  | .bptr i c, v, h, hv => by cases hv; rw [<- (hp i (by simpa only [Rv] using h)).2]; exact .bptr (hp i (by simpa only [Rv] using h)).1
  | .rptr i k e c, v, h, hv => by cases hv; rw [<- (hp i (by simpa only [Rv] using h)).2]; exact .rptr (hp i (by simpa only [Rv] using h)).1
  | .own i k e n, v, h, hv => by
    cases hv with
    | own _ h1 h2 => rw [<- (hp i (by simpa only [Rv] using h)).2] at h2 ⊢; exact .own (hp i (by simpa only [Rv] using h)).1 h1 h2
  | .fn f a b, v, h, hv => by
    simp only [Rv, Bool.and_eq_true] at h
    cases hv with
    | fn h1 h2 h3 h4 => exact .fn h1 h2 (λ j x y hx hy => VRel.keepL hp a h.1 j x y hx (h3 j x y hx hy)) λ j x y hx hy => VRel.keepL hp b h.2 j x y hx (h4 j x y hx hy)
  | .mref i, v, h, hv => by cases hv; rw [<- (hp i (by simpa only [Rv] using h)).2]; exact .mref (hp i (by simpa only [Rv] using h)).1
  | .any, v, _, _ => .any
  | .opt g a, v, h, hv => by
    cases hv with
    | opt h1 h2 => exact .opt (λ hg => VRel.keep hp a v (by simpa only [Rv] using h) (h1 hg)) h2
theorem VRel.keepL {p : Nat -> Bool} (hp : ∀ i, p i = true -> D' i /\ ι' i = ι i) : ∀ (l : List AVal), NJ p l = true -> ∀ (j : Nat) (x : AVal) (v : Value), l[j]? = some x -> VRel B ι D x v -> VRel B ι' D' x v
  | [], _, j, x, v, hx, _ => by simp at hx
  | a :: l, h, 0, x, v, hx, hv => by simp at hx; subst hx; simp only [NJ, Bool.and_eq_true] at h; exact VRel.keep hp a v h.1 hv
  | a :: l, h, j + 1, x, v, hx, hv => by simp only [NJ, Bool.and_eq_true] at h; exact VRel.keepL hp l h.2 j x v (by simpa using hx) hv
end
structure Pack where
  sl : List Nat
  ids : List Nat
  fz : List Nat := []
def qO (F : wO) : HCell -> HCell
  | .live (.box es) => .live (.box (frL F es))
  | x => x
def BUZ (F : wO) : HCell -> List Prop
  | .live (.box es) => frCL F es
  | _ => []
def BFI (p : Nat -> Bool) : HCell -> Bool
  | .live o => okO p o
  | .dead => true
  | .none => false
def YG (p : Pack) (σ : AState) : ST :=
  ⟨p.sl.map λ t => (t, frV (QL σ.H p.fz) (σ.sl t)), p.ids.map λ i => (i, qO (QL σ.H p.fz) (FO σ.H p.fz i))⟩
def BHF (p : Pack) (σ : AState) : List Prop := (p.sl.flatMap λ t => frC (QL σ.H p.fz) (σ.sl t)) ++ p.ids.flatMap λ i => BUZ (QL σ.H p.fz) (FO σ.H p.fz i)
def AQI (p : Pack) (E : List Nat) (s : ST) : Bool :=
  s.sl.all (λ x => Rv (λ i => p.ids.contains i) x.2) && s.H.all (λ x => BFI (λ i => p.ids.contains i) x.2) && E.all (λ i => p.ids.contains i) && nodup p.ids
def xR (o : Option Pack) (E : List Nat) (σ : AState) (K : AState -> Prop) : Prop := match o with
  | none => K σ
  | some p => if AQI p E (YG p σ) then andK (BHF p σ) (K (YG p σ).st) else False
theorem kY {α : Type} {f : α -> List Prop} : ∀ {l : List α}, EG (l.flatMap f) -> ∀ x ∈ l, EG (f x)
  | [], _, x, hx => by cases hx
  | a :: l, h, x, hx => by
    rw [List.flatMap_cons] at h
    obtain ⟨h1, h2⟩ := CP h
    rcases List.mem_cons.1 hx with rfl | hx
    · exact h1
    · exact kY h2 x hx
theorem qA (f : Nat -> AVal) : ∀ (l : List Nat) (t : Nat), NG (l.map λ t => (t, f t)) t = .any ∨ (t ∈ l /\ NG (l.map λ t => (t, f t)) t = f t)
  | [], t => .inl rfl
  | a :: l, t => by
    simp only [List.map_cons, NG]
    split
    · rename_i h; subst h; exact .inr ⟨by simp, rfl⟩
    · rcases qA f l t with h | ⟨h1, h2⟩
      · exact .inl h
      · exact .inr ⟨by simp [h1], h2⟩
theorem BCF (f : Nat -> HCell) : ∀ (l : List Nat) (i : Nat), Cj (l.map λ i => (i, f i)) i = if l.contains i then some (f i) else none
  | [], i => rfl
  | a :: l, i => by
    simp only [List.map_cons, Cj, BCF f l, List.contains_cons]
    by_cases h : i = a
    · subst h; simp
    · have : (i == a) = false := by simpa using h
      rw [if_neg h, this]; simp
theorem Moved.pack {B0 : Fr} {ι0 : Nat -> Pl} {H0 : Heap} {w0 : World} {p : Pack} {E : List Nat} (hE : ∀ i, H0.dom i -> i ∈ E) (hok : AQI p E (YG p σ) = true) (hc : EG (BHF p σ)) (hm0 : Moved B0 ι0 H0 w0 B ι σ.H w) :
    ∃ B', Moved B0 ι0 H0 w0 B' ι (YG p σ).st.H w /\ (∀ t v, VRel B ι σ.H.dom (σ.sl t) v -> VRel B' ι (YG p σ).st.H.dom ((YG p σ).st.sl t) v) /\ (∀ i o, (YG p σ).st.H i = .live o -> ∃ o', σ.H i = .live o') /\
      (∀ b c, B b = some c -> B' b = some c) /\ ∀ i ∈ E, (YG p σ).st.H.dom i := by
  simp only [AQI, Bool.and_eq_true, List.all_eq_true] at hok
  obtain ⟨⟨⟨o1, o2⟩, o3⟩, o4⟩ := hok
  obtain ⟨c1, c2⟩ := CP hc
  obtain ⟨B', hk, hF⟩ := WF p.fz hm0.heap
  have hm := hm0.trans hk
  have hcell : ∀ i ∈ p.ids, BFI (λ i => p.ids.contains i) (qO (QL σ.H p.fz) (FO σ.H p.fz i)) = true := λ i hi => o2 _ (List.mem_map.2 ⟨i, hi, rfl⟩)
  have hH : ∀ i, (YG p σ).st.H i = if p.ids.contains i then qO (QL σ.H p.fz) (FO σ.H p.fz i) else .none := λ i => by
    show (Cj _ i).getD .none = _
    rw [YG, BCF]; split <;> rfl
  have hdom : ∀ i, p.ids.contains i = true -> (YG p σ).st.H.dom i /\ ι i = ι i := λ i hi => by
    refine ⟨?_, rfl⟩
    unfold Heap.dom
    rw [hH, if_pos hi]
    have := hcell i (by simpa using hi)
    intro he; rw [he] at this; cases this
  have live : ∀ i o, (YG p σ).st.H i = .live o -> ∃ o', i ∈ p.ids /\ FO σ.H p.fz i = .live o' /\ qO (QL σ.H p.fz) (.live o') = .live o := λ i o hi => by
    rw [hH] at hi
    split at hi
    · rename_i hc
      cases hq : FO σ.H p.fz i with
      | live o' => rw [hq] at hi; exact ⟨o', by simpa using hc, rfl, hi⟩
      | none => rw [hq] at hi; cases hi
      | dead => rw [hq] at hi; cases hi
    · cases hi
  refine ⟨B', ?_, λ t v hv => ?_, λ i o hi => by obtain ⟨o', _, ho, _⟩ := live i o hi; exact ⟨o', Ms p.fz ho⟩, hF.1, λ i hi => (hdom i (o3 i hi)).1⟩
  · refine ⟨hm.bm, hm.bn, λ i hi => ?_, ⟨λ i o hi => ?_, λ i j o o' hi hj hij => ?_, λ i o hi => ?_, hm.heap.imm⟩, λ i o hi => ?_, hm.frame, hm.size, hm.calm⟩
    · exact ⟨(hdom i (o3 i (hE i hi))).1, (hm.im i hi).2⟩
    · obtain ⟨o', hid, ho, he⟩ := live i o hi
      have h1 := hm0.heap.obj _ _ (Ms p.fz ho)
      generalize w.heap[(ι i).b]? = q at h1 ⊢
      have hok := hcell i hid
      rw [ho] at hok
      cases o' with
      | box es =>
        simp only [qO, HCell.live.injEq] at he
        subst he
        have h2 := kY c2 i hid
        rw [ho] at h2
        cases h1 with
        | box hsz hr =>
          refine .box (by rw [cN]; exact hsz) λ j x z hx hz => ?_
          exact VRel.keepL hdom _ (by simpa only [BFI, qO, okO] using hok) j x z hx (Ik hF es _ h2 hr j x z hx hz)
      | row k n g =>
        simp only [qO, HCell.live.injEq] at he
        subst he
        cases h1 with
        | row a b cc d => exact .row a b cc λ i j x y hi hx hy => (d i j x y hi hx hy).mono hF.1
      | imap q z hs g st pend =>
        simp only [qO, HCell.live.injEq] at he
        subst he
        cases h1 with
        | imap a => exact .imap (a.mono hF.1)
    · obtain ⟨_, _, h1, _⟩ := live i o hi
      obtain ⟨_, _, h2, _⟩ := live j o' hj
      exact hm.heap.inj _ _ _ _ h1 h2 hij
    · obtain ⟨_, _, h1, _⟩ := live i o hi
      exact hm.heap.sep _ _ h1
    · obtain ⟨_, _, h1, _⟩ := live i o hi
      exact hm.own _ _ h1
  · rcases qA (λ t => frV (QL σ.H p.fz) (σ.sl t)) p.sl t with h | ⟨h1, h2⟩
    · show VRel _ _ _ (NG _ t) _
      rw [YG, h]; exact .any
    · show VRel _ _ _ (NG _ t) _
      rw [YG, h2]
      exact VRel.keep hdom _ _ (o1 _ (List.mem_map.2 ⟨t, h1, rfl⟩)) (ADG hF _ _ (kY c1 t h1) hv)
theorem Rel.pack {p : Pack} {E : List Nat} {a : Act} (hE : ∀ i, c.H0.dom i -> i ∈ E) (hok : AQI p E (YG p σ) = true) (hc : EG (BHF p σ)) (hR : Rel c B ι σ a w) : ∃ B', Rel c B' ι (YG p σ).st a w := by
  obtain ⟨B', h1, h2, h3, _⟩ := Moved.pack hE hok hc hR.mv
  obtain ⟨Ds, d1, d0, d2, d3⟩ := hR.defers
  refine ⟨B', λ t => h2 t _ (hR.slots t), hR.size, ⟨Ds, d1, d0, d2, λ D hD => ⟨(d3 D hD).1, (d3 D hD).2.here, λ i o hi => ?_⟩⟩, h1⟩
  obtain ⟨o', ho⟩ := h3 i o hi
  exact (d3 D hD).2.sep _ _ ho
theorem CodeE.noGoto {x : Code} (h : CodeE P c x (AKP Q) σ) : CodeE P c (.scope x) Q σ := by
  intro B ι a w hR
  refine wZ (Code.wpIn_mono (λ e a w hq => ?_) (h B ι a w hR))
  obtain ⟨B', ι', σ', hq, hR'⟩ := hq
  cases e with
  | goto l => exact hq.elim
  | _ => exact ⟨B', ι', σ', hq, hR'⟩
theorem BKN {l : List Prop} {K K' : Prop} (hK : K -> K') (h : andK l K) : andK l K' := by
  cases l with
  | nil => exact hK h
  | cons => exact ⟨h.1, hK h.2⟩
theorem ABZ {Γ : FuncId -> Option Spec} {mt : Bool} {base n : Nat} {ops : Array Oper} {draw : Bool} {K K' : AState -> Prop} (hK : ∀ σ, K σ -> K' σ) (h : nN P Γ mt base n ops draw σ K) : nN P Γ mt base n ops draw σ K' := by
  unfold nN at *
  split at h
  · split at h
    · rename_i hc; rw [if_pos hc]; exact BKN (hK _) h
    · exact h.elim
  · exact h
end Go.Sym
