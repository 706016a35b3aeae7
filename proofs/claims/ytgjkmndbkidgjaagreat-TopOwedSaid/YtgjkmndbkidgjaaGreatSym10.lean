/- Guards: what stands under a guard looks only at what stands under the same. -/
import Derived.Test.YtgjkmndbkidgjaaGreatSym9
set_option linter.unusedVariables false
set_option linter.unusedSimpArgs false
namespace Go.Sym
theorem EZ {a b : List Prop} : BG (a ++ b) ↔ BG a /\ BG b := by
  induction a with
  | nil => simp [BG]
  | cons p a ih => rw [List.cons_append, CX, CX, ih, and_assoc]
variable {P : Program} {B B' : HN} {ι ι' : Nat -> Pl} {H H' : Heap} {D : Nat -> Prop} {w w' : World}
def ABB (o : Oper) (t : Nat) : Bool := match o.dst with
  | some d => Nat.beq d t
  | none => false
theorem AFG {o : Oper} {t : Nat} (h : ABB o t = true) : o.dst = some t := by
  unfold ABB at h
  split at h
  · rename_i d hd; rw [hd, Nat.eq_of_beq_eq_true h]
  · cases h
def IM : List Oper -> Bool
  | [] => true
  | o :: l => (match o.dst with
    | some d => l.all λ o' => !ABB o' d
    | none => true) && IM l
theorem ZO {l : List Oper} (h : IM l = true) {i k : Nat} {o o' : Oper} {t : Nat} (hik : i < k) (ho : l[i]? = some o) (ho' : l[k]? = some o') (ht : o.dst = some t) : o'.dst ≠ some t := by
  induction l generalizing i k with
  | nil => simp at ho
  | cons a l ih =>
    simp only [IM, Bool.and_eq_true] at h
    cases k with
    | zero => omega
    | succ k =>
      rw [List.getElem?_cons_succ] at ho'
      cases i with
      | zero =>
        rw [List.getElem?_cons_zero] at ho
        cases ho
        have h1 := h.1
        rw [ht] at h1
        simp only [List.all_eq_true] at h1
        have := h1 o' (List.mem_of_getElem? ho')
        intro he
        simp [ABB, he] at this
      | succ i => exact ih h.2 (i := i) (k := k) (by omega) (by rw [List.getElem?_cons_succ] at ho; exact ho) ho'
def gH : List Oper -> Nat -> Bool
  | [], _ => true
  | o :: l, k => (match o.guard with
    | some q => Nat.blt q.1 k
    | none => true) && gH l (k + 1)
theorem Ck : ∀ {l : List Oper} {k : Nat}, gH l k = true -> ∀ {i : Nat} {o : Oper} {q : Nat × Bool}, l[i]? = some o -> o.guard = some q -> q.1 < k + i
  | [], _, _, i, o, q, h, _ => by simp at h
  | a :: l, k, h, 0, o, q, ho, hq => by
    simp only [gH, Bool.and_eq_true] at h
    simp at ho; subst ho
    have h1 := h.1
    rw [hq] at h1
    simpa using h1
  | a :: l, k, h, i + 1, o, q, ho, hq => by
    simp only [gH, Bool.and_eq_true] at h
    have := Ck h.2 (i := i) (by simpa using ho) hq
    omega
def wg : List Oper -> Nat -> Nat -> Option (Nat × Bool)
  | [], _, _ => none
  | _ :: _, 0, _ => none
  | o :: l, k + 1, t => if ABB o t then o.guard else wg l k t
theorem AGX : ∀ {l : List Oper} {k t : Nat} {q : Nat × Bool}, wg l k t = some q -> ∃ i o, i < k /\ l[i]? = some o /\ o.dst = some t /\ o.guard = some q
  | [], k, t, q, h => by simp [wg] at h
  | o :: l, 0, t, q, h => by simp [wg] at h
  | o :: l, k + 1, t, q, h => by
    simp only [wg] at h
    split at h
    · rename_i hd; exact ⟨0, o, by omega, rfl, AFG hd, h⟩
    · obtain ⟨i, o', h1, h2, h3⟩ := AGX h
      exact ⟨i + 1, o', by omega, by simpa using h2, h3⟩
def gcov (ops : Array Oper) : Nat -> Nat × Bool -> Nat × Bool -> Bool
  | 0, _, _ => false
  | f + 1, q, q' => (Nat.beq q.1 q'.1 && (q.2 == q'.2)) || match (ops[q.1]?).bind (·.guard) with
    | some q2 => gcov ops f q2 q'
    | none => false
def GInv (ops : Array Oper) (sl : Nat -> AVal) (k : Nat) : Prop :=
  ∀ i o t q, i < k -> ops[i]? = some o -> o.dst = some t -> o.guard = some q -> ∃ g v, sl t = .opt g v /\ BY ops sl q.1 q.2 = some g
theorem AFD {ops : Array Oper} {sl : Nat -> AVal} {j : Nat} {want g gd : Bool} {t : Nat} {v : AVal} (ht : (ops[j]?).bind (·.dst) = some t) (hs : sl t = .opt gd v) (h : BY ops sl j want = some g) (hg : g = true) : gd = true := by
  unfold BY at h
  rw [ht] at h
  simp only [hs] at h
  split at h <;> simp_all
theorem AEN {ops : Array Oper} {sl : Nat -> AVal} {j : Nat} {want g : Bool} (h : BY ops sl j want = some g) : ∃ o t, ops[j]? = some o /\ o.dst = some t := by
  unfold BY at h
  split at h
  · rename_i t ht
    cases hj : ops[j]? with
    | none => rw [hj] at ht; cases ht
    | some o => rw [hj] at ht; exact ⟨o, t, rfl, ht⟩
  · cases h
theorem xA {ops : Array Oper} {sl : Nat -> AVal} {k : Nat} (hI : GInv ops sl k) (hl : gH ops.toList 0 = true) : ∀ (f : Nat) (q q' : Nat × Bool) (g g' : Bool), gcov ops f q q' = true -> q.1 < k -> BY ops sl q.1 q.2 = some g -> g = true -> BY ops sl q'.1 q'.2 = some g' -> g' = true
  | 0, _, _, _, _, h, _, _, _, _ => by simp [gcov] at h
  | f + 1, q, q', g, g', h, hq, h1, hg, h2 => by
    simp only [gcov, Bool.or_eq_true, Bool.and_eq_true, DK, beq_iff_eq] at h
    rcases h with ⟨e1, e2⟩ | h
    · rw [<- e1, <- e2, h1] at h2; cases h2; exact hg
    · split at h
      · rename_i q2 hq2
        obtain ⟨o, t, ho, ht⟩ := AEN h1
        have hgq : o.guard = some q2 := by rw [ho] at hq2; exact hq2
        obtain ⟨gd, v, hs, hgd⟩ := hI q.1 o t q2 hq ho ht hgq
        have := AFD (by rw [ho]; exact ht) hs h1 hg
        have hlow := Ck hl (i := q.1) (by simpa using ho) hgq
        exact xA hI hl f q2 q' gd g' h (by omega) hgd this h2
      · cases h
def tagW (cv : Nat × Bool -> Bool) (ops : Array Oper) (k : Nat) (c : Prop) (x : Operand) (a : AVal) : List Prop := match a with
  | .opt g _ => match x with
    | .tmp t => match wg ops.toList k t with
      | some q => if cv q then [] else [c -> g = true]
      | none => [c -> g = true]
    | _ => [c -> g = true]
  | _ => []
theorem Bz {cv : Nat × Bool -> Bool} {ops : Array Oper} {sl : Nat -> AVal} {k : Nat} {c : Prop} {x : Operand} (hI : GInv ops sl k) (hcv : ∀ q g, cv q = true -> BY ops sl q.1 q.2 = some g -> c -> g = true) (h : BG (tagW cv ops k c x (BA sl x))) : BG (KC c (BA sl x)) := by
  generalize ha : BA sl x = a at h
  cases a with
  | opt g v =>
    simp only [tagW] at h
    split at h
    · rename_i t
      split at h
      · rename_i q hq
        split at h
        · rename_i hc
          obtain ⟨i, o, h1, h2, h3, h4⟩ := AGX hq
          obtain ⟨g', v', h5, h6⟩ := hI i o t q h1 (by simpa using h2) h3 h4
          have : sl t = .opt g v := ha
          rw [h5] at this; cases this
          exact λ c => hcv q _ hc h6 c
        · exact h
      · exact h
    · exact h
  | _ => trivial
def cvOwn (ops : Array Oper) (k : Nat) (gd : Option (Nat × Bool)) (q : Nat × Bool) : Bool := match gd with
  | some g => gcov ops (k + 1) g q
  | none => false
def zU (ops : Array Oper) (k : Nat) (gd : Option (Nat × Bool)) (c : Operand) (want : Bool) (q : Nat × Bool) : Bool :=
  (match c, (ops[q.1]?).bind (·.dst) with
    | .tmp tc, some t => Nat.beq t tc && (q.2 == want)
    | _, _ => false) || cvOwn ops k gd q
def AHQ (ops : Array Oper) (k : Nat) (sl : Nat -> AVal) (o : Oper) : List Prop := match o.op, o.guard with
  | .pick c a b, gd => match BQ (BA sl c) with
    | .d (.v (.bool t)) => tagW (cvOwn ops k gd) ops k True c (BA sl c) ++ (tagW (zU ops k gd c true) ops k (t = true) a (BA sl a) ++ tagW (zU ops k gd c false) ops k (t = false) b (BA sl b))
    | _ => []
  | _, none => []
  | op, some q => op.operands.toList.flatMap λ x => tagW (cvOwn ops k (some q)) ops k True x (BA sl x)
def RP (sl : Nat -> AVal) (o : Oper) : List Prop := match o.op, o.guard with
  | .pick c a b, _ => match BQ (BA sl c) with
    | .d (.v (.bool t)) => KC True (BA sl c) ++ (KC (t = true) (BA sl a) ++ KC (t = false) (BA sl b))
    | _ => []
  | _, none => []
  | op, some _ => GT (BA sl) op.operands.toList
theorem fK {ops : Array Oper} {sl : Nat -> AVal} {k : Nat} {gd : Option (Nat × Bool)} {c : Operand} {want t : Bool} (hO : ∀ q g, cvOwn ops k gd q = true -> BY ops sl q.1 q.2 = some g -> g = true) (hc : BQ (BA sl c) = .d (.v (.bool t))) (ht : BG (KC True (BA sl c))) (q : Nat × Bool) (g : Bool)
    (h : zU ops k gd c want q = true) (hg : BY ops sl q.1 q.2 = some g) (hw : t = want) : g = true := by
  simp only [zU, Bool.or_eq_true] at h
  rcases h with h | h
  · split at h
    · rename_i tc t' hd
      simp only [Bool.and_eq_true, DK, beq_iff_eq] at h
      obtain ⟨rfl, h2⟩ := h
      unfold BY at hg
      rw [hd] at hg
      simp only [BA] at hc ht
      subst hw
      rw [h2] at hg
      obtain ⟨v, hv⟩ : ∃ v, sl t' = v := ⟨_, rfl⟩
      simp only [hv] at hc ht hg
      cases v with
      | opt gc v' =>
        have : gc = true := ht trivial
        subst this
        simp only [BQ] at hc; subst hc
        cases t <;> simp at hg <;> exact hg
      | d x => simp only [BQ] at hc; cases hc; cases t <;> simp at hg <;> exact hg
      | _ => simp only [BQ] at hc; cases hc
    · cases h
  · exact hO q g h hg
theorem ACS {ops : Array Oper} {sl : Nat -> AVal} {k : Nat} {o : Oper} (hI : GInv ops sl k) (hl : gH ops.toList 0 = true) (ho : ops[k]? = some o) (hgd : ∀ q, o.guard = some q -> BY ops sl q.1 q.2 = some true) (h : BG (AHQ ops k sl o)) : BG (RP sl o) := by
  have hO : ∀ q g, cvOwn ops k o.guard q = true -> BY ops sl q.1 q.2 = some g -> g = true := λ q g hc hg => by
    unfold cvOwn at hc
    split at hc
    · rename_i q0 hq0
      have := Ck hl (i := k) (by simpa using ho) hq0
      exact xA hI hl _ q0 q true g hc (by omega) (hgd q0 hq0) rfl hg
    · cases hc
  unfold AHQ at h
  unfold RP
  split at h
  · rename_i c a b ho'
    split at h
    · rename_i t hc
      obtain ⟨h1, h2⟩ := BD h
      obtain ⟨h2, h3⟩ := BD h2
      have t1 := Bz hI (λ q g a b _ => hO q g a b) h1
      exact EZ.2 ⟨t1, EZ.2 ⟨Bz hI (λ q g a b c => fK hO hc t1 q g a b c) h2, Bz hI (λ q g a b c => fK hO hc t1 q g a b c) h3⟩⟩
    · trivial
  · trivial
  · rename_i q hgn hq
    rw [hgn] at hO
    generalize o.op.operands.toList = l at h
    induction l with
    | nil => trivial
    | cons x l ih =>
      rw [List.flatMap_cons] at h
      obtain ⟨h1, h2⟩ := BD h
      show BG (KC True (BA sl x) ++ GT (BA sl) l)
      exact EZ.2 ⟨Bz hI (λ q g a b _ => hO q g a b) h1, ih h2⟩
theorem GInv.next {ops : Array Oper} {sl : Nat -> AVal} {k : Nat} {o : Oper} {v : AVal} (hI : GInv ops sl k) (hl : gH ops.toList 0 = true) (hd : IM ops.toList = true) (ho : ops[k]? = some o) (hv : ∀ q, o.guard = some q -> ∃ g v', v = .opt g v' /\ BY ops sl q.1 q.2 = some g) (sl' : Nat -> AVal)
    (hsl : ∀ t, sl' t = if o.dst = some t then v else sl t) : GInv ops sl' (k + 1) := by
  have hk : ∀ j want, j < k -> BY ops sl' j want = BY ops sl j want := λ j want hj => by
    unfold BY
    cases hjo : ops[j]? with
    | none => rfl
    | some oj =>
      simp only [Option.bind_some]
      cases hdj : oj.dst with
      | none => rfl
      | some t =>
        simp only
        rw [hsl t, if_neg (ZO hd hj (by simpa using hjo) (by simpa using ho) hdj)]
  intro i o' t q hi ho' ht hq
  have hlow := Ck hl (i := i) (by simpa using ho') hq
  rcases Nat.lt_or_ge i k with hik | hik
  · obtain ⟨g, v', h1, h2⟩ := hI i o' t q hik ho' ht hq
    refine ⟨g, v', ?_, by rw [hk _ _ (by omega)]; exact h2⟩
    rw [hsl t, if_neg (ZO hd hik (by simpa using ho') (by simpa using ho) ht)]
    exact h1
  · have : i = k := by omega
    subst this
    rw [ho] at ho'; cases ho'
    obtain ⟨g, v', h1, h2⟩ := hv q hq
    exact ⟨g, v', by rw [hsl t, if_pos ht]; exact h1, by rw [hk _ _ (by omega)]; exact h2⟩
end Go.Sym

namespace Go.Sym
variable {P : Program} {B B' : HN} {ι ι' : Nat -> Pl} {H H' : Heap} {D : Nat -> Prop} {w w' : World} {c : Ctx} {σ : AState} {Q : Exit -> AState -> Prop}
structure CallR where
  ids : List Nat
  val : AVal
  upd : List (Nat × HCell)
  pre : List Prop
abbrev Spec := List AVal -> Heap -> Nat -> Option CallR
def AR (P : Program) (g : FuncId) (s : Spec) : Prop := ∀ as H r x, s as H r = some x -> BG x.pre -> xW P g as r (x.ids.map λ i => (i, H i)) x.val x.upd
def isNone : HCell -> Bool
  | .none => true
  | _ => false
theorem MK {c : HCell} (h : isNone c = true) : c = .none := by cases c <;> first | rfl | cases h
def LY (H : Heap) (r : Nat) : Bool := (List.range 16).all λ i => isNone (H (r + i))
theorem JE {r : Nat} (h : LY H r = true) : ∀ i, r <= i -> i < r + 16 -> H i = .none := λ i h1 h2 => by
  simp only [LY, List.all_eq_true, List.mem_range] at h
  have := MK (h (i - r) (by omega))
  rwa [show r + (i - r) = i by omega] at this
def xH (n : Nat) (o : Oper) : Bool := match o.dst with
  | some d => Nat.blt d n
  | none => true
theorem OA {n : Nat} {o : Oper} (h : xH n o = true) : ∀ d, o.dst = some d -> d < n := by
  intro d hd
  simpa [xH, hd] using h
structure Stp where
  val : AVal
  upd : List (Nat × HCell)
  touch : List Nat
  pre : List Prop
def wC (Γ : FuncId -> Option Spec) (r : Nat) (f : AVal) (args : List AVal) (H : Heap) : Option CallR := match f with
  | .fn (.func g) first caps => match Γ g with
    | some s => s (first ++ args ++ caps) H r
    | none => none
  | _ => none
def gopB (P : Program) (r : Nat) (ρ : Operand -> AVal) (H : Heap) (g : Bool) (op : Op) : Option (AVal × List Prop) := match op with
  | .pick c a b => match BQ (ρ c) with
    | .d (.v (.bool t)) => some (uS t (BQ (ρ a)) (BQ (ρ b)), [])
    | _ => none
  | .buildSlice t len ps => match FV P r t len (ps.toList.map λ p => (p.1, BQ (ρ p.2))) with
    | some ⟨_, [(_, .live (.row k n get))], _⟩ => some (.d (.list k n get true), [])
    | _ => none
  | .makeSlice t l c => match HX P r t (BQ (ρ l)) (BQ (ρ c)) with
    | some ⟨_, [(_, .live (.row k n get))], p⟩ => some (.d (.list k n get true), PS g p)
    | _ => none
  | op => match opA P false r (λ x => BQ (ρ x)) H op with
    | some ⟨v, [], p⟩ => some (v, PS g p)
    | _ => none
def AVT (P : Program) (Γ : FuncId -> Option Spec) (mt : Bool) (r : Nat) (σ : AState) : Op -> Option Stp
  | .call ⟨.value f, args, _⟩ => match wC Γ r (BA σ.sl f) (args.toList.map (BA σ.sl)) σ.H with
    | some x => if LY σ.H r then some ⟨x.val, x.upd, x.ids ++ (List.range 16).map (r + ·), x.pre⟩ else none
    | none => none
  | .call ⟨.invoke x m, args, _⟩ => match BA σ.sl x with
    | .d (.iface t d) => match lC P t m with
      | some g => match wC Γ r (.fn (.func g) [.d d] []) (args.toList.map (BA σ.sl)) σ.H with
        | some x => if LY σ.H r then some ⟨x.val, x.upd, x.ids ++ (List.range 16).map (r + ·), x.pre⟩ else none
        | none => none
      | none => none
    | _ => none
  | .pick c a b => match BA σ.sl c with
    | .d (.v (.bool t)) => if isNone (σ.H r) then some ⟨uS t (BQ (BA σ.sl a)) (BQ (BA σ.sl b)), [], r :: LR (BA σ.sl) (.pick c a b), []⟩ else none
    | _ => none
  | op => match opA P mt r (BA σ.sl) σ.H op with
    | some e => if isNone (σ.H r) then some ⟨e.val, e.upd, r :: LR (BA σ.sl) op, e.pre⟩ else none
    | none => none
def stepG (P : Program) (Γ : FuncId -> Option Spec) (r : Nat) (σ : AState) (g : Bool) : Op -> Option (AVal × List Nat × List Prop)
  | .call ⟨.value f, args, _⟩ => match wC Γ r (BQ (BA σ.sl f)) (args.toList.map λ x => BQ (BA σ.sl x)) σ.H with
    | some ⟨ids, v, [], p⟩ => if LY σ.H r then some (v, ids ++ (List.range 16).map (r + ·), PS g p) else none
    | _ => none
  | op => match gopB P r (BA σ.sl) σ.H g op with
    | some (v, p) => if isNone (σ.H r) then some (v, r :: LR (λ x => BQ (BA σ.sl x)) op, p) else none
    | none => none
def gB (P : Program) (Γ : FuncId -> Option Spec) (mt : Bool) (ops : Array Oper) (r : Nat) (σ : AState) (o : Oper) : Option Stp := match o.guard with
  | none => AVT P Γ mt r σ o.op
  | some (j, want) => match BY ops σ.sl j want with
    | some g => match stepG P Γ r σ g o.op with
      | some (v, touch, p) => some ⟨.opt g v, [], touch, p⟩
      | none => none
    | none => none
theorem PT {g : Bool} {l : List Prop} (h : g = true -> BG l) : BG (PS g l) := by
  cases l with
  | nil => trivial
  | cons => exact h
theorem ZS {op : Op} (h : ∀ c a b, op = .pick c a b -> False) (sl : Nat -> AVal) (o : Oper) (ho : o.op = op) (q : Nat × Bool) (hq : o.guard = some q) : RP sl o = GT (BA sl) op.operands.toList := by
  unfold RP
  rw [ho, hq]
  cases op <;> first | rfl | exact (h _ _ _ rfl).elim
def wE (P : Program) (Γ : FuncId -> Option Spec) : Prop := ∀ g s, Γ g = some s -> AR P g s
theorem NI {Γ : FuncId -> Option Spec} (hΓ : wE P Γ) {r : Nat} {f : AVal} {args : List AVal} {x : CallR} (h : wC Γ r f args H = some x) : ∃ g first caps, f = .fn (.func g) first caps /\ (BG x.pre -> xW P g (first ++ args ++ caps) r (x.ids.map λ i => (i, H i)) x.val x.upd) := by
  unfold wC at h
  split at h
  · rename_i g first caps
    split at h
    · rename_i s hs
      exact ⟨g, first, caps, rfl, hΓ g s hs _ _ _ _ h⟩
    · cases h
  · cases h
theorem OD (l : List Nat) (H : Heap) : ∀ p ∈ l.map (λ i => (i, H i)), H p.1 = p.2 := λ p hp => by
  obtain ⟨i, _, rfl⟩ := List.mem_map.1 hp; rfl
theorem AKR {r : Nat} {sl : Nat -> AVal} {g : Bool} {o : Oper} {q : Nat × Bool} {v : AVal} {p : List Prop} (h : gopB P r (BA sl) H g o.op = some (v, p)) (hq : o.guard = some q) (hp : BG p) (ht : g = true -> BG (RP sl o)) : ∃ p', rX P r (BA sl) H g o.op = some (v, p') /\ BG p' := by
  unfold gopB at h
  split at h
  · rename_i c a b ho
    split at h
    · rename_i t hc
      cases h
      refine ⟨PS g (KC True (BA sl c) ++ (KC (t = true) (BA sl a) ++ KC (t = false) (BA sl b))), by rw [ho]; simp only [rX, hc], PT λ hg => ?_⟩
      have := ht hg
      unfold RP at this
      rw [ho, hq] at this
      simp only [hc] at this
      exact this
    · cases h
  · rename_i t len ps ho
    split at h
    · rename_i hb
      cases h
      refine ⟨PS g (GT (BA sl) (Op.buildSlice t len ps).operands.toList), by rw [ho]; simp only [rX, hb], PT λ hg => ?_⟩
      have := ht hg
      rw [ZS (λ _ _ _ h => by cases h) sl o ho _ hq] at this
      exact this
    · cases h
  · rename_i t l c ho
    split at h
    · rename_i v0 r0 k n get p0 hb
      cases h
      refine ⟨PS g (KC True (BA sl l) ++ (KC True (BA sl c) ++ p0)), by rw [ho]; simp only [rX, hb], PT λ hg => ?_⟩
      have := ht hg
      rw [ZS (λ _ _ _ h => by cases h) sl o ho _ hq] at this
      exact EZ.2 ⟨JY this l (by simp [Op.operands]), EZ.2 ⟨JY this c (by simp [Op.operands]), GZ hp hg⟩⟩
    · cases h
  · rename_i h1 h2 h3
    split at h
    · rename_i e1 e2 ho
      cases h
      refine ⟨PS g (GT (BA sl) o.op.operands.toList ++ e2), ?_, PT λ hg => ?_⟩
      · unfold rX
        split
        · rename_i c a b hop; exact (h1 c a b hop).elim
        · rename_i t len ps hop; exact (h2 t len ps hop).elim
        · rename_i t l c hop; exact (h3 t l c hop).elim
        · rw [ho]
      · have := ht hg
        rw [ZS (λ c a b h => h1 c a b h) sl o rfl _ hq] at this
        exact EZ.2 ⟨this, GZ hp hg⟩
    · cases h
theorem gE {Γ : FuncId -> Option Spec} {mt : Bool} {ops : Array Oper} {r : Nat} {o : Oper} {s : Stp} (h : gB P Γ mt ops r σ o = some s) (q : Nat × Bool) (hq : o.guard = some q) : ∃ g v, s.val = .opt g v /\ BY ops σ.sl q.1 q.2 = some g := by
  unfold gB at h
  rw [hq] at h
  simp only at h
  split at h
  · rename_i g hg
    split at h
    · cases h; exact ⟨g, _, rfl, hg⟩
    · cases h
  · cases h
theorem PZ {Γ : FuncId -> Option Spec} (hΓ : wE P Γ) {mt : Bool} {ops : Array Oper} {r : Nat} {o : Oper} {s : Stp} (h : gB P Γ mt ops r σ o = some s) (hp : BG s.pre) (ht : (∀ q, o.guard = some q -> BY ops σ.sl q.1 q.2 = some true) -> BG (RP σ.sl o)) : StepO P mt ops r σ o s.val s.upd s.touch := by
  have mp : ∀ (l : List Nat), (l.map λ i => (i, σ.H i)).map (·.1) = l := λ l => by
    induction l with
    | nil => rfl
    | cons a l ih => simp only [List.map_cons, ih]
  have ht' : ∀ {j want g}, o.guard = some (j, want) -> BY ops σ.sl j want = some g -> g = true -> BG (RP σ.sl o) := λ hg hw hgt => ht λ q hq => by
    rw [hg] at hq; cases hq; rw [hw, hgt]
  unfold gB at h
  split at h
  · rename_i hg
    unfold AVT at h
    split at h
    · rename_i f args ats ho
      split at h
      · rename_i x hx
        split at h
        · rename_i hf
          cases h
          obtain ⟨g, first, caps, he, hc⟩ := NI hΓ hx
          have := StepO.call (mt := mt) (ops := ops) hg ho he (hc hp) (OD _ _) (JE hf)
          rw [mp] at this; exact this
        · cases h
      · cases h
    · rename_i y m args ats ho
      split at h
      · rename_i t d hy
        split at h
        · rename_i g0 hm
          split at h
          · rename_i x hx
            split at h
            · rename_i hf
              cases h
              obtain ⟨g, first, caps, he, hc⟩ := NI hΓ hx
              cases he
              have hc' := hc hp
              simp only [List.cons_append, List.nil_append, List.append_nil] at hc'
              have := StepO.inv (mt := mt) (ops := ops) hg ho hy hm hc' (OD _ _) (JE hf)
              rw [mp] at this; exact this
            · cases h
          · cases h
        · cases h
      · cases h
    · rename_i c a b ho
      split at h
      · rename_i t hc
        split at h
        · rename_i hf
          cases h
          have h0 := ht λ q hq => by rw [hg] at hq; cases hq
          have h1 : BG (KC (t = true) (BA σ.sl a) ++ KC (t = false) (BA σ.sl b)) := by
            unfold RP at h0
            rw [ho, hg] at h0
            simp only [hc, BQ, KC, List.nil_append] at h0
            exact h0
          have := StepO.op (P := P) (mt := mt) (ops := ops) (r := r) (σ := σ) (o := o) (e := ⟨uS t (BQ (BA σ.sl a)) (BQ (BA σ.sl b)), [], KC (t = true) (BA σ.sl a) ++ KC (t = false) (BA σ.sl b)⟩) hg (by rw [ho]; simp only [opA, hc]) h1 (MK hf)
          rw [ho] at this; exact this
        · cases h
      · cases h
    · split at h
      · rename_i e he
        split at h
        · rename_i hf
          cases h
          exact .op hg he hp (MK hf)
        · cases h
      · cases h
  · rename_i j want hg
    split at h
    · rename_i g hw
      split at h
      · rename_i v touch p hst
        cases h
        unfold stepG at hst
        split at hst
        · rename_i f args ats ho
          split at hst
          · rename_i ids v p hx
            split at hst
            · rename_i hf
              cases hst
              obtain ⟨g', first, caps, he, hc⟩ := NI hΓ hx
              have := StepO.gcall (mt := mt) (ops := ops) (r := r) hg hw ho he (λ h => by
                have := ht' hg hw h
                rw [ZS (λ _ _ _ h => by cases h) σ.sl o ho _ hg] at this
                rw [ho]; exact this) (λ h => hc (GZ hp h)) (OD _ _) (JE hf)
              rw [mp] at this; exact this
            · cases hst
          · cases hst
        · split at hst
          · rename_i v p he
            split at hst
            · rename_i hf
              cases hst
              obtain ⟨p', h1, h2⟩ := AKR (sl := σ.sl) (o := o) he hg hp (ht' hg hw)
              exact .gop hg hw h1 h2 (MK hf)
            · cases hst
          · cases hst
      · cases h
    · cases h
structure Run where
  st : AState
  pre : List Prop
  tab : List (List Nat × List Nat)
theorem Er (sl : Nat -> AVal) (dst : Option Tmp) (v : AVal) (t : Nat) : LL sl dst v t = if dst = some t then v else sl t := by
  cases dst with
  | none => simp [LL]
  | some d =>
    by_cases h : t = d
    · simp [LL, h]
    · simp [LL, h, Ne.symm h]
def tagC (ops : Array Oper) (k : Nat) (σ : AState) (o : Oper) : List Prop := match o.guard with
  | none => AHQ ops k σ.sl o
  | some (j, want) => match BY ops σ.sl j want with
    | some g => PS g (AHQ ops k σ.sl o)
    | none => []
def pF (P : Program) (Γ : FuncId -> Option Spec) (mt : Bool) (ops : Array Oper) (base n : Nat) : List Oper -> Nat -> AState -> Option Run
  | [], _, σ => some ⟨σ, [], []⟩
  | o :: l, k, σ => if xH n o then match gB P Γ mt ops (base + 16 * k) σ o with
      | some s => match pF P Γ mt ops base n l (k + 1) (σ.app o.dst s.val s.upd) with
        | some x => some ⟨x.st, tagC ops k σ o ++ (s.pre ++ x.pre), (s.touch, s.upd.map (·.1)) :: x.tab⟩
        | none => none
      | none => none
    else none
def Al (l : List (List Nat × List Nat)) : As := λ k => l.getD k ([], [])
theorem Zf {ops : Array Oper} {k : Nat} {o : Oper} (hI : GInv ops σ.sl k) (hl : gH ops.toList 0 = true) (ho : ops[k]? = some o) (h : BG (tagC ops k σ o)) (hg : ∀ q, o.guard = some q -> BY ops σ.sl q.1 q.2 = some true) : BG (RP σ.sl o) := by
  refine ACS hI hl ho hg ?_
  unfold tagC at h
  split at h
  · exact h
  · rename_i j want hq
    have := hg _ hq
    simp only at this
    rw [this] at h
    exact GZ h rfl
theorem Vd {Γ : FuncId -> Option Spec} (hΓ : wE P Γ) {mt : Bool} {ops : Array Oper} {base n : Nat} {K : AState -> Prop} (hl : gH ops.toList 0 = true) (hd : IM ops.toList = true) : ∀ (l : List Oper) (σ : AState) (x : Run) (T0 : List (List Nat × List Nat)), ops.toList.drop T0.length = l -> GInv ops σ.sl T0.length -> pF P Γ mt ops base n l T0.length σ = some x -> BG x.pre -> K x.st ->
    LexT P mt ops base n (Al (T0 ++ x.tab)) K l T0.length σ
  | [], σ, x, T0, _, _, h, _, hK => by simp only [pF, Option.some.injEq] at h; subst h; exact hK
  | o :: l, σ, x, T0, hdr, hI, h, hp, hK => by
    simp only [pF] at h
    have ho : ops[T0.length]? = some o := by
      have : (ops.toList.drop T0.length)[0]? = some o := by rw [hdr]; rfl
      simpa using this
    split at h
    · rename_i hdo
      split at h
      · rename_i s hs
        split at h
        · rename_i y hy
          cases h
          obtain ⟨hp0, hp1⟩ := BD hp
          obtain ⟨hp1, hp2⟩ := BD hp1
          have hI' : GInv ops (σ.app o.dst s.val s.upd).sl (T0.length + 1) := hI.next hl hd ho (λ q hq => gE hs q hq) _ (Er _ _ _)
          have ih := Vd hΓ hl hd l _ y (T0 ++ [(s.touch, s.upd.map (·.1))]) (by
            have := congrArg List.tail hdr
            simpa using this) (by simpa using hI') (by simpa using hy) hp2 hK
          have ht : Al (T0 ++ ((s.touch, s.upd.map (·.1)) :: y.tab)) T0.length = (s.touch, s.upd.map (·.1)) := by simp [Al]
          refine ⟨s.val, s.upd, s.touch, PZ hΓ hs hp1 (Zf hI hl ho hp0), OA hdo, by rw [ht], by rw [ht], ?_⟩
          simpa using ih
        · cases h
      · cases h
    · cases h
theorem xD {mt : Bool} {ops : Array Oper} {base n : Nat} {T : As} {K : AState -> Prop} : ∀ (l : List Oper) (k : Nat) (σ : AState), LexT P mt ops base n T K l k σ -> LexE P mt ops base n K l k σ
  | [], _, _, h => h
  | o :: l, k, σ, h => by
    obtain ⟨val, upd, touch, h1, h2, _, _, h5⟩ := h
    exact ⟨val, upd, touch, h1, h2, xD l (k + 1) _ h5⟩
def VU (P : Program) (Γ : FuncId -> Option Spec) (mt : Bool) (base n : Nat) (ops : Array Oper) (draw : Bool) (σ : AState) (K : AState -> Prop) : Prop :=
  match pF P Γ mt ops base n ops.toList 0 σ with
  | some x => if gH ops.toList 0 && IM ops.toList && (!draw || lexFromT .any ops (Al x.tab) ops.size 0 (Array.replicate ops.size false)) then RR x.pre (K x.st) else False
  | none => False
theorem Fa {Γ : FuncId -> Option Spec} (hΓ : wE P Γ) (hm : P.follows .mixedOrders = true) {mt : Bool} {base : Nat} {id : Nat} {ops : Array Oper} {draw : Bool} (h : VU P Γ mt base c.n ops draw σ (Q .normal)) : CodeE P c (.region id ops draw) Q σ := by
  unfold VU at h
  split at h
  · rename_i x hx
    split at h
    · rename_i hc
      simp only [Bool.and_eq_true] at hc
      obtain ⟨⟨hl, hd⟩, h1⟩ := hc
      obtain ⟨h2, h3⟩ := DU h
      have hl := Vd hΓ (K := Q .normal) hl hd ops.toList σ x [] (by simp) (λ i _ _ _ hi => by simp at hi) (by simpa using hx) h2 h3
      simp only [List.nil_append, List.length_nil] at hl
      cases draw with
      | false => exact AFF (xD _ _ _ hl)
      | true => exact ZL hm (by simpa using h1) hl
    · exact h.elim
  · exact h.elim
structure RunG where
  st : AState
  pre : List Prop
  tab : List (List Nat × List Nat)
  g : Option Bool
def AIR (P : Program) (Γ : FuncId -> Option Spec) (r : Nat) (σ : AState) (as : Bool) (op : Op) : Option Stp := match op with
  | .call ⟨.value f, args, _⟩ => match wC Γ r (BQ (BA σ.sl f)) (args.toList.map λ x => BQ (BA σ.sl x)) σ.H with
    | some x => match as with
      | false => some ⟨.opt false x.val, [], [], []⟩
      | true => if LY σ.H r then some ⟨.opt true x.val, x.upd, x.ids ++ (List.range 16).map (r + ·), x.pre⟩ else none
    | none => none
  | _ => none
def runG (P : Program) (Γ : FuncId -> Option Spec) (md : Nat -> Nat) (as : Bool) (ops : Array Oper) (base n : Nat) : List Oper -> Nat -> AState -> Option RunG
  | [], _, σ => some ⟨σ, [], [], none⟩
  | o :: l, k, σ => if xH n o then bif Nat.beq (md k) 10 then match o.guard with
      | some (j, want) => match BY ops σ.sl j want, AIR P Γ (base + 16 * k) σ as o.op with
        | some g, some s => match runG P Γ md as ops base n l (k + 1) (σ.app o.dst s.val s.upd) with
          | some ⟨st, pre, tab, none⟩ => some ⟨st, tagC ops k σ o ++ (s.pre ++ pre), (s.touch, s.upd.map (·.1)) :: tab, some g⟩
          | _ => none
        | _, _ => none
      | none => none
    else match gB P Γ false ops (base + 16 * k) σ o with
      | some s => match runG P Γ md as ops base n l (k + 1) (σ.app o.dst s.val s.upd) with
        | some x => some ⟨x.st, tagC ops k σ o ++ (s.pre ++ x.pre), (s.touch, s.upd.map (·.1)) :: x.tab, x.g⟩
        | none => none
      | none => none
    else none
theorem AAS {Γ : FuncId -> Option Spec} (hΓ : wE P Γ) {ops : Array Oper} {r : Nat} {o : Oper} {s : Stp} {as : Bool} {j : Nat} {want : Bool} (hg : o.guard = some (j, want)) (hw : BY ops σ.sl j want = some as) (h : AIR P Γ r σ as o.op = some s) (hp : BG s.pre) (ht : as = true -> BG (RP σ.sl o)) : StepO P false ops r σ o s.val s.upd s.touch := by
  have mp : ∀ (l : List Nat), (l.map λ i => (i, σ.H i)).map (·.1) = l := λ l => by
    induction l with
    | nil => rfl
    | cons a l ih => simp only [List.map_cons, ih]
  unfold AIR at h
  split at h
  · rename_i f args ats ho
    split at h
    · rename_i x hx
      split at h
      · cases h; exact .gskip hg hw
      · split at h
        · rename_i hf
          cases h
          obtain ⟨g', first, caps, he, hc⟩ := NI hΓ hx
          have := StepO.gcallT (mt := false) (ops := ops) (r := r) hg hw ho he (by
            have := ht rfl
            rw [ZS (λ _ _ _ h => by cases h) σ.sl o ho _ hg] at this
            rw [ho]; exact this) (hc hp) (OD _ _) (JE hf)
          rw [mp] at this; exact this
        · cases h
    · cases h
  · cases h
theorem YB {Γ : FuncId -> Option Spec} (hΓ : wE P Γ) {md : Nat -> Nat} {as : Bool} {ops : Array Oper} {base n : Nat} {K : AState -> Prop} (hl : gH ops.toList 0 = true) (hd : IM ops.toList = true) : ∀ (l : List Oper) (σ : AState) (x : RunG) (T0 : List (List Nat × List Nat)), ops.toList.drop T0.length = l -> GInv ops σ.sl T0.length -> runG P Γ md as ops base n l T0.length σ = some x -> (∀ g, x.g = some g -> g = as) -> BG x.pre -> K x.st ->
    LexT P false ops base n (Al (T0 ++ x.tab)) K l T0.length σ
  | [], σ, x, T0, _, _, h, _, _, hK => by simp only [runG, Option.some.injEq] at h; subst h; exact hK
  | o :: l, σ, x, T0, hdr, hI, h, hga, hp, hK => by
    simp only [runG] at h
    have ho : ops[T0.length]? = some o := by
      have : (ops.toList.drop T0.length)[0]? = some o := by rw [hdr]; rfl
      simpa using this
    split at h
    case isFalse => cases h
    rename_i hdo
    cases hm : Nat.beq (md T0.length) 10 with
    | true =>
      rw [hm] at h
      simp only [cond_true] at h
      split at h
      case h_2 => cases h
      rename_i j want hgd
      split at h
      case h_2 => cases h
      rename_i g s hgA hs
      split at h
      case h_2 => cases h
      rename_i st pre tab hy
      cases h
      obtain rfl : g = as := hga g rfl
      obtain ⟨hp0, hp1⟩ := BD hp
      obtain ⟨hp1, hp2⟩ := BD hp1
      have hv : ∃ v, s.val = .opt g v := by
        unfold AIR at hs
        split at hs
        · split at hs
          · split at hs
            · cases hs; exact ⟨_, rfl⟩
            · split at hs
              · cases hs; exact ⟨_, rfl⟩
              · cases hs
          · cases hs
        · cases hs
      obtain ⟨v, hv⟩ := hv
      have hI' : GInv ops (σ.app o.dst s.val s.upd).sl (T0.length + 1) := hI.next hl hd ho (λ q hq => ⟨g, v, hv, by rw [hgd] at hq; cases hq; exact hgA⟩) _ (Er _ _ _)
      have ih := YB hΓ hl hd l _ ⟨st, pre, tab, none⟩ (T0 ++ [(s.touch, s.upd.map (·.1))]) (by
        have := congrArg List.tail hdr
        simpa using this) (by simpa using hI') (by simpa using hy) (λ _ h => by cases h) hp2 hK
      have ht : Al (T0 ++ ((s.touch, s.upd.map (·.1)) :: tab)) T0.length = (s.touch, s.upd.map (·.1)) := by simp [Al]
      refine ⟨s.val, s.upd, s.touch, AAS hΓ hgd hgA hs hp1 (λ hgt => Zf hI hl ho hp0 λ q hq => by rw [hgd] at hq; cases hq; rw [hgA, hgt]), OA hdo, by rw [ht], by rw [ht], ?_⟩
      simpa using ih
    | false =>
      rw [hm] at h
      simp only [cond_false] at h
      split at h
      case h_2 => cases h
      rename_i s hs
      split at h
      case h_2 => cases h
      rename_i y hy
      cases h
      obtain ⟨hp0, hp1⟩ := BD hp
      obtain ⟨hp1, hp2⟩ := BD hp1
      have hI' : GInv ops (σ.app o.dst s.val s.upd).sl (T0.length + 1) := hI.next hl hd ho (λ q hq => gE hs q hq) _ (Er _ _ _)
      have ih := YB hΓ hl hd l _ y (T0 ++ [(s.touch, s.upd.map (·.1))]) (by
        have := congrArg List.tail hdr
        simpa using this) (by simpa using hI') (by simpa using hy) hga hp2 hK
      have ht : Al (T0 ++ ((s.touch, s.upd.map (·.1)) :: y.tab)) T0.length = (s.touch, s.upd.map (·.1)) := by simp [Al]
      refine ⟨s.val, s.upd, s.touch, PZ hΓ hs hp1 (Zf hI hl ho hp0), OA hdo, by rw [ht], by rw [ht], ?_⟩
      simpa using ih
def U1 (P : Program) (Γ : FuncId -> Option Spec) (md : Nat -> Nat) (base n : Nat) (ops : Array Oper) (σ : AState) (K : AState -> Prop) : Prop :=
  match runG P Γ md true ops base n ops.toList 0 σ, runG P Γ md false ops base n ops.toList 0 σ with
  | some ⟨s1, p1, t1, some g1⟩, some ⟨s0, p0, t0, some g0⟩ => if gH ops.toList 0 && IM ops.toList && lexFromT .any ops (Al t1) ops.size 0 (Array.replicate ops.size false) && lexFromT .any ops (Al t0) ops.size 0 (Array.replicate ops.size false) then RR [g0 = g1] (bif g1 then RR p1 (K s1) else RR p0 (K s0)) else False
  | _, _ => False
theorem wJ {Γ : FuncId -> Option Spec} (hΓ : wE P Γ) (hm : P.follows .mixedOrders = true) {md : Nat -> Nat} {base : Nat} {id : Nat} {ops : Array Oper} (h : U1 P Γ md base c.n ops σ (Q .normal)) : CodeE P c (.region id ops true) Q σ := by
  unfold U1 at h
  split at h
  case h_2 => exact h.elim
  rename_i s1 p1 t1 g1 s0 p0 t0 g0 h1 h0
  split at h
  case isFalse => exact h.elim
  rename_i hc
  simp only [Bool.and_eq_true] at hc
  obtain ⟨⟨⟨hl, hd⟩, l1⟩, l0⟩ := hc
  obtain ⟨hgg, h⟩ := DU h
  obtain rfl : g0 = g1 := hgg
  cases g0 with
  | true =>
    obtain ⟨h2, h3⟩ := DU (show RR p1 (Q .normal s1) from h)
    have hx := YB hΓ (K := Q .normal) hl hd ops.toList σ _ [] (by simp) (λ i _ _ _ hi => by simp at hi) (by simpa using h1) (λ g hg => by cases hg; rfl) h2 h3
    simp only [List.nil_append, List.length_nil] at hx
    exact ZL hm (by simpa using l1) hx
  | false =>
    obtain ⟨h2, h3⟩ := DU (show RR p0 (Q .normal s0) from h)
    have hx := YB hΓ (K := Q .normal) hl hd ops.toList σ _ [] (by simp) (λ i _ _ _ hi => by simp at hi) (by simpa using h0) (λ g hg => by cases hg; rfl) h2 h3
    simp only [List.nil_append, List.length_nil] at hx
    exact ZL hm (by simpa using l0) hx
end Go.Sym

namespace Go.Sym
variable {P : Program} {B B' : HN} {ι ι' : Nat -> Pl} {H H' : Heap} {D D' : Nat -> Prop} {w w' : World} {c : Ctx} {σ : AState} {Q : Exit -> AState -> Prop}
structure Shape where
  α : Type
  dflt : α
  T : α -> ST
  inv : α -> Prop
  meas : α -> Nat
  first : List (Nat × Nat) := []
  again : List (Nat × Nat) := []
  ffz : List Nat := []
  afz : List Nat := []
  /-- what the annotations within are told, behind the measure -/
  tag : List Nat := []
def Shape.at1 (s : Shape) : List (Nat × Nat) × List Nat := (s.first, s.ffz)
def Shape.at2 (s : Shape) : List (Nat × Nat) × List Nat := (s.again, s.afz)
abbrev Ed := List Shape
def ZC (E : List Nat) (sel : Shape -> List (Nat × Nat) × List Nat) (σ : AState) (K : (s : Shape) -> s.α -> Prop) : List Shape -> Prop
  | [] => False
  | s :: l => if (IX E (sel s).2 (sel s).1 (s.T s.dflt) σ).isSome then ∃ a, AGW (IX E (sel s).2 (sel s).1 (s.T a) σ) (K s a) else ZC E sel σ K l
theorem IH {E : List Nat} {sel : Shape -> List (Nat × Nat) × List Nat} {K : (s : Shape) -> s.α -> Prop} : ∀ {l : List Shape}, ZC E sel σ K l -> ∃ s ∈ l, ∃ a, CJ (IX E (sel s).2 (sel s).1 (s.T a) σ) /\ K s a
  | [], h => h.elim
  | s :: l, h => by
    unfold ZC at h
    split at h
    · obtain ⟨a, h⟩ := h
      obtain ⟨h1, h2⟩ := Po h
      exact ⟨s, by simp, a, h1, h2⟩
    · obtain ⟨s', h1, h2⟩ := IH h
      exact ⟨s', by simp [h1], h2⟩
def allS (K : Shape -> Prop) : List Shape -> Prop
  | [] => True
  | [s] => K s
  | s :: l => K s /\ allS K l
theorem Dd {K : Shape -> Prop} : ∀ {l : List Shape}, allS K l -> ∀ s ∈ l, K s
  | [], _, s, h => by cases h
  | [t], h, s, hs => by simp at hs; subst hs; exact h
  | t :: u :: l, h, s, hs => by
    rcases List.mem_cons.1 hs with rfl | hs
    · exact h.1
    · exact Dd (l := u :: l) h.2 s hs
def YJ : Code -> Nat
  | .region id _ _ => id
  | .seq a _ => YJ a
  | .block _ b => YJ b
  | .cond _ t _ => YJ t
  | .loop b => YJ b
  | .scope b => YJ b
  | .rangeFunc _ _ a _ => YJ a
  | _ => 0
def AHZ (Q : Exit -> AState -> Prop) : Exit -> AState -> Prop
  | .goto _, _ => False
  | e, σ => Q e σ
mutual
def frV (F : Bg) : AVal -> AVal
  | .own id k i n => match F id with
    | some (k2, _, get) => if Nat.beq k k2 then .d (.list k n (λ j => get (i + j)) false) else .any
    | none => .own id k i n
  | .agg cs => qB (frL F cs)
  | .tup cs => xQ (frL F cs)
  | .fn f a b => .fn f (frL F a) (frL F b)
  | .opt g a => .opt g (frV F a)
  | a => a
def frL (F : Bg) : List AVal -> List AVal
  | [] => []
  | a :: r => frV F a :: frL F r
end
mutual
def frC (F : Bg) : AVal -> List Prop
  | .own id _ i n => match F id with
    | some (_, m, _) => [i + n <= m]
    | none => []
  | .agg cs => tD F cs
  | .tup cs => tD F cs
  | .fn _ a b => tD F a ++ tD F b
  | .opt _ a => frC F a
  | _ => []
def tD (F : Bg) : List AVal -> List Prop
  | [] => []
  | a :: r => frC F a ++ tD F r
end
theorem LC (F : Bg) : ∀ l : List AVal, (frL F l).length = l.length
  | [] => rfl
  | a :: l => by simp [frL, LC F l]
theorem AMR (x : Value) : vEq x x := by
  unfold vEq; split <;> simp_all
mutual
theorem KE : ∀ (x : DVal), CO x x
  | .v x => by simp only [CO]; exact AMR x
  | .agg xs => by simp only [CO]; exact Nm xs
  | .tup xs => by simp only [CO]; exact Nm xs
  | .list k n g e => by simp only [CO]; exact ⟨.inl trivial, trivial, id, λ i _ => KE (g i)⟩
  | .arr k n g => by simp only [CO]; exact ⟨trivial, trivial, λ i _ => KE (g i)⟩
  | .eref x c => by simp only [CO]; exact ⟨trivial, KE x⟩
  | .iface t x => by simp only [CO]; exact ⟨trivial, KE x⟩
  | .anyB => by simp only [CO]
theorem Nm : ∀ (l : List DVal), IG l l
  | [] => trivial
  | x :: l => ⟨KE x, Nm l⟩
end
mutual
theorem bL {F : Bg} (hF : ZP B B' ι F) : ∀ (a : AVal) (v : Value), BG (frC F a) -> VRel B ι D a v -> VRel B' ι D (frV F a) v
  | .own id k i n, v, h, hv => by
    simp only [frC] at h
    simp only [frV]
    split
    · rename_i k2 m get hf
      simp only [hf] at h
      split
      · rename_i hk
        have := Nat.eq_of_beq_eq_true hk; subst this
        exact .d (vL hF hf rfl h (λ j _ => KE _) hv)
      · exact .any
    · exact hv.mono hF.1 λ i hi => ⟨hi, rfl⟩
  | .agg cs, v, h, hv => by
    simp only [frV]
    cases hv with
    | agg hl hr => exact Co (by rw [LC]; exact hl) (HI hF cs _ h hr)
  | .tup cs, v, h, hv => by
    simp only [frV]
    cases hv with
    | tup hl hr => exact yA (by rw [LC]; exact hl) (HI hF cs _ h hr)
  | .fn f a b, v, h, hv => by
    simp only [frV]
    simp only [frC] at h
    obtain ⟨h1, h2⟩ := BD h
    cases hv with
    | fn h3 h4 h5 h6 => exact .fn (by rw [LC]; exact h3) (by rw [LC]; exact h4) (HI hF a _ h1 h5) (HI hF b _ h2 h6)
  | .opt g a, v, h, hv => by
    simp only [frV]
    cases hv with
    | opt h1 h2 => exact .opt (λ hg => bL hF a v h (h1 hg)) h2
  | .d x, v, _, hv => by simp only [frV]; exact hv.mono hF.1 λ i hi => ⟨hi, rfl⟩
  | .bptr i c, v, _, hv => by simp only [frV]; exact hv.mono hF.1 λ i hi => ⟨hi, rfl⟩
  | .rptr i k e c, v, _, hv => by simp only [frV]; exact hv.mono hF.1 λ i hi => ⟨hi, rfl⟩
  | .mref i, v, _, hv => by simp only [frV]; exact hv.mono hF.1 λ i hi => ⟨hi, rfl⟩
  | .any, v, _, _ => by simp only [frV]; exact .any
theorem HI {F : Bg} (hF : ZP B B' ι F) : ∀ (l : List AVal) (ys : Array Value), BG (tD F l) -> (∀ (j : Nat) (x : AVal) (y : Value), l[j]? = some x -> ys[j]? = some y -> VRel B ι D x y) ->
    ∀ (j : Nat) (x : AVal) (y : Value), (frL F l)[j]? = some x -> ys[j]? = some y -> VRel B' ι D x y
  | [], ys, _, _, j, x, y, hx, _ => by simp [frL] at hx
  | a :: l, ys, h, hr, j, x, y, hx, hy => by
    obtain ⟨h1, h2⟩ := BD (by simpa only [tD] using h)
    cases j with
    | zero =>
      simp only [frL, List.getElem?_cons_zero, Option.some.injEq] at hx
      subst hx
      exact bL hF a y h1 (hr 0 a y rfl hy)
    | succ j =>
      simp only [frL, List.getElem?_cons_succ] at hx
      exact HI hF l (ys.extract 1 ys.size) h2 (λ i x y hx hy => hr (i + 1) x y (by simpa using hx) (by
        rw [Array.getElem?_extract] at hy
        split at hy
        · rw [Nat.add_comm]; exact hy
        · cases hy)) j x y hx (by
        have hlt := (Array.getElem?_eq_some_iff.1 hy).1
        rw [Array.getElem?_extract, if_pos (by omega), Nat.add_comm]; exact hy)
end
mutual
theorem VRel.keep {p : Nat -> Bool} (hp : ∀ i, p i = true -> D' i /\ ι' i = ι i) : ∀ (a : AVal) (v : Value), LP p a = true -> VRel B ι D a v -> VRel B ι' D' a v
  | .d x, v, _, hv => .d hv.d_inv
  | .agg cs, v, h, hv => by
    cases hv with
    | agg hl hr => exact .agg hl λ j x y hx hy => VRel.keepL hp cs (by simpa only [LP] using h) j x y hx (hr j x y hx hy)
  | .tup cs, v, h, hv => by
    cases hv with
    | tup hl hr => exact .tup hl λ j x y hx hy => VRel.keepL hp cs (by simpa only [LP] using h) j x y hx (hr j x y hx hy)
  | .bptr i c, v, h, hv => by cases hv; rw [<- (hp i (by simpa only [LP] using h)).2]; exact .bptr (hp i (by simpa only [LP] using h)).1
  | .rptr i k e c, v, h, hv => by cases hv; rw [<- (hp i (by simpa only [LP] using h)).2]; exact .rptr (hp i (by simpa only [LP] using h)).1
  | .own i k e n, v, h, hv => by
    cases hv with
    | own _ h1 h2 => rw [<- (hp i (by simpa only [LP] using h)).2] at h2 ⊢; exact .own (hp i (by simpa only [LP] using h)).1 h1 h2
  | .fn f a b, v, h, hv => by
    simp only [LP, Bool.and_eq_true] at h
    cases hv with
    | fn h1 h2 h3 h4 => exact .fn h1 h2 (λ j x y hx hy => VRel.keepL hp a h.1 j x y hx (h3 j x y hx hy)) λ j x y hx hy => VRel.keepL hp b h.2 j x y hx (h4 j x y hx hy)
  | .mref i, v, h, hv => by cases hv; rw [<- (hp i (by simpa only [LP] using h)).2]; exact .mref (hp i (by simpa only [LP] using h)).1
  | .any, v, _, _ => .any
  | .opt g a, v, h, hv => by
    cases hv with
    | opt h1 h2 => exact .opt (λ hg => VRel.keep hp a v (by simpa only [LP] using h) (h1 hg)) h2
theorem VRel.keepL {p : Nat -> Bool} (hp : ∀ i, p i = true -> D' i /\ ι' i = ι i) : ∀ (l : List AVal), wX p l = true -> ∀ (j : Nat) (x : AVal) (v : Value), l[j]? = some x -> VRel B ι D x v -> VRel B ι' D' x v
  | [], _, j, x, v, hx, _ => by simp at hx
  | a :: l, h, 0, x, v, hx, hv => by simp at hx; subst hx; simp only [wX, Bool.and_eq_true] at h; exact VRel.keep hp a v h.1 hv
  | a :: l, h, j + 1, x, v, hx, hv => by simp only [wX, Bool.and_eq_true] at h; exact VRel.keepL hp l h.2 j x v (by simpa using hx) hv
end
structure Pack where
  sl : List Nat
  ids : List Nat
  fz : List Nat := []
def JU (F : Bg) : HCell -> HCell
  | .live (.box es) => .live (.box (frL F es))
  | .live (.abox es m g) => .live (.abox (frL F es) m g)
  | x => x
def AUF (F : Bg) : HCell -> List Prop
  | .live (.box es) => tD F es
  | .live (.abox es _ _) => tD F es
  | _ => []
def uW (p : Nat -> Bool) : HCell -> Bool
  | .live o => okO p o
  | .dead => true
  | .none => false
def GK (p : Pack) (σ : AState) : ST :=
  ⟨p.sl.map λ t => (t, frV (EM σ.H p.fz) (σ.sl t)), p.ids.map λ i => (i, JU (EM σ.H p.fz) (CF σ.H p.fz i))⟩
def AGY (p : Pack) (σ : AState) : List Prop := (p.sl.flatMap λ t => frC (EM σ.H p.fz) (σ.sl t)) ++ p.ids.flatMap λ i => AUF (EM σ.H p.fz) (CF σ.H p.fz i)
def nD (p : Pack) (E : List Nat) (s : ST) : Bool :=
  s.sl.all (λ x => LP (λ i => p.ids.contains i) x.2) && s.H.all (λ x => uW (λ i => p.ids.contains i) x.2) && E.all (λ i => p.ids.contains i) && nodup p.ids
def Ew (o : Option Pack) (E : List Nat) (σ : AState) (K : AState -> Prop) : Prop := match o with
  | none => K σ
  | some p => if nD p E (GK p σ) then RR (AGY p σ) (K (GK p σ).st) else False
theorem LW {α : Type} {f : α -> List Prop} : ∀ {l : List α}, BG (l.flatMap f) -> ∀ x ∈ l, BG (f x)
  | [], _, x, hx => by cases hx
  | a :: l, h, x, hx => by
    rw [List.flatMap_cons] at h
    obtain ⟨h1, h2⟩ := BD h
    rcases List.mem_cons.1 hx with rfl | hx
    · exact h1
    · exact LW h2 x hx
theorem YZ (f : Nat -> AVal) : ∀ (l : List Nat) (t : Nat), DV (l.map λ t => (t, f t)) t = .any ∨ (t ∈ l /\ DV (l.map λ t => (t, f t)) t = f t)
  | [], t => .inl rfl
  | a :: l, t => by
    simp only [List.map_cons, DV]
    split
    · rename_i h; subst h; exact .inr ⟨by simp, rfl⟩
    · rcases YZ f l t with h | ⟨h1, h2⟩
      · exact .inl h
      · exact .inr ⟨by simp [h1], h2⟩
theorem Y4 (f : Nat -> HCell) : ∀ (l : List Nat) (i : Nat), HH (l.map λ i => (i, f i)) i = if l.contains i then some (f i) else none
  | [], i => rfl
  | a :: l, i => by
    simp only [List.map_cons, HH, Y4 f l, List.contains_cons]
    by_cases h : i = a
    · subst h; simp
    · have : (i == a) = false := by simpa using h
      rw [if_neg h, this]; simp
theorem Moved.pack {B0 : HN} {ι0 : Nat -> Pl} {H0 : Heap} {w0 : World} {p : Pack} {E : List Nat} (hE : ∀ i, H0.dom i -> i ∈ E) (hok : nD p E (GK p σ) = true) (hc : BG (AGY p σ)) (hm0 : Moved B0 ι0 H0 w0 B ι σ.H w) :
    ∃ B', Moved B0 ι0 H0 w0 B' ι (GK p σ).st.H w /\ (∀ t v, VRel B ι σ.H.dom (σ.sl t) v -> VRel B' ι (GK p σ).st.H.dom ((GK p σ).st.sl t) v) /\ (∀ i o, (GK p σ).st.H i = .live o -> ∃ o', σ.H i = .live o') /\
      (∀ b c, B b = some c -> B' b = some c) /\ ∀ i ∈ E, (GK p σ).st.H.dom i := by
  simp only [nD, Bool.and_eq_true, List.all_eq_true] at hok
  obtain ⟨⟨⟨o1, o2⟩, o3⟩, o4⟩ := hok
  obtain ⟨c1, c2⟩ := BD hc
  obtain ⟨B', hk, hF⟩ := FU p.fz hm0.heap
  have hm := hm0.trans hk
  have hcell : ∀ i ∈ p.ids, uW (λ i => p.ids.contains i) (JU (EM σ.H p.fz) (CF σ.H p.fz i)) = true := λ i hi => o2 _ (List.mem_map.2 ⟨i, hi, rfl⟩)
  have hH : ∀ i, (GK p σ).st.H i = if p.ids.contains i then JU (EM σ.H p.fz) (CF σ.H p.fz i) else .none := λ i => by
    show (HH _ i).getD .none = _
    rw [GK, Y4]; split <;> rfl
  have hdom : ∀ i, p.ids.contains i = true -> (GK p σ).st.H.dom i /\ ι i = ι i := λ i hi => by
    refine ⟨?_, rfl⟩
    unfold Heap.dom
    rw [hH, if_pos hi]
    have := hcell i (by simpa using hi)
    intro he; rw [he] at this; cases this
  have live : ∀ i o, (GK p σ).st.H i = .live o -> ∃ o', i ∈ p.ids /\ CF σ.H p.fz i = .live o' /\ JU (EM σ.H p.fz) (.live o') = .live o := λ i o hi => by
    rw [hH] at hi
    split at hi
    · rename_i hc
      cases hq : CF σ.H p.fz i with
      | live o' => rw [hq] at hi; exact ⟨o', by simpa using hc, rfl, hi⟩
      | none => rw [hq] at hi; cases hi
      | dead => rw [hq] at hi; cases hi
    · cases hi
  refine ⟨B', ?_, λ t v hv => ?_, λ i o hi => by obtain ⟨o', _, ho, _⟩ := live i o hi; exact ⟨o', KR p.fz ho⟩, hF.1, λ i hi => (hdom i (o3 i hi)).1⟩
  · refine ⟨hm.bm, hm.bn, λ i hi => ?_, ⟨λ i o hi => ?_, λ i j o o' hi hj hij => ?_, λ i o hi => ?_, hm.heap.imm⟩, λ i o hi => ?_, hm.frame, hm.size, hm.calm⟩
    · exact ⟨(hdom i (o3 i (hE i hi))).1, (hm.im i hi).2⟩
    · obtain ⟨o', hid, ho, he⟩ := live i o hi
      have h1 := hm0.heap.obj _ _ (KR p.fz ho)
      generalize w.heap[(ι i).b]? = q at h1 ⊢
      have hok := hcell i hid
      rw [ho] at hok
      cases o' with
      | box es =>
        simp only [JU, HCell.live.injEq] at he
        subst he
        have h2 := LW c2 i hid
        rw [ho] at h2
        cases h1 with
        | box hsz hr =>
          refine .box (by rw [LC]; exact hsz) λ j x z hx hz => ?_
          exact VRel.keepL hdom _ (by simpa only [uW, JU, okO] using hok) j x z hx (HI hF es _ h2 hr j x z hx hz)
      | row k n g =>
        simp only [JU, HCell.live.injEq] at he
        subst he
        cases h1 with
        | row a b cc d => exact .row a b cc λ i j x y hi hx hy => (d i j x y hi hx hy).mono hF.1
      | imap q z hs g st pend =>
        simp only [JU, HCell.live.injEq] at he
        subst he
        cases h1 with
        | imap a => exact .imap (a.mono hF.1)
      | kmap q z hs g =>
        simp only [JU, HCell.live.injEq] at he
        subst he
        cases h1 with
        | kmap a => exact .kmap (a.mono hF.1)
      | abox es m g =>
        simp only [JU, HCell.live.injEq] at he
        subst he
        have h2 := LW c2 i hid
        rw [ho] at h2
        cases h1 with
        | abox hsz hr hb =>
          refine .abox (by rw [LC]; exact hsz) (λ j x z hx hz => ?_) (by rw [LC]; exact hb)
          exact VRel.keepL hdom _ (by simpa only [uW, JU, okO] using hok) j x z hx (HI hF es _ h2 hr j x z hx hz)
      | miter m a b c d =>
        simp only [JU, HCell.live.injEq] at he
        subst he
        cases h1 with
        | miter hD h1 h2 h3 h4 h5 => exact .miter (hdom m (by simpa only [uW, JU, okO] using hok)).1 h1 h2 h3 h4 h5
    · obtain ⟨_, _, h1, _⟩ := live i o hi
      obtain ⟨_, _, h2, _⟩ := live j o' hj
      exact hm.heap.inj _ _ _ _ h1 h2 hij
    · obtain ⟨_, _, h1, _⟩ := live i o hi
      exact hm.heap.sep _ _ h1
    · obtain ⟨_, _, h1, _⟩ := live i o hi
      exact hm.own _ _ h1
  · rcases YZ (λ t => frV (EM σ.H p.fz) (σ.sl t)) p.sl t with h | ⟨h1, h2⟩
    · show VRel _ _ _ (DV _ t) _
      rw [GK, h]; exact .any
    · show VRel _ _ _ (DV _ t) _
      rw [GK, h2]
      exact VRel.keep hdom _ _ (o1 _ (List.mem_map.2 ⟨t, h1, rfl⟩)) (bL hF _ _ (LW c1 t h1) hv)
theorem Rel.pack {p : Pack} {E : List Nat} {a : Act} (hE : ∀ i, c.H0.dom i -> i ∈ E) (hok : nD p E (GK p σ) = true) (hc : BG (AGY p σ)) (hR : Rel c B ι σ a w) : ∃ B', Rel c B' ι (GK p σ).st a w := by
  obtain ⟨B', h1, h2, h3, _⟩ := Moved.pack hE hok hc hR.mv
  obtain ⟨Ds, d1, d0, d2, d3⟩ := hR.defers
  refine ⟨B', λ t => h2 t _ (hR.slots t), hR.size, ⟨Ds, d1, d0, d2, λ D hD => ⟨(d3 D hD).1, (d3 D hD).2.here, λ i o hi => ?_⟩⟩, h1⟩
  obtain ⟨o', ho⟩ := h3 i o hi
  exact (d3 D hD).2.sep _ _ ho
theorem CodeE.noGoto {x : Code} (h : CodeE P c x (AHZ Q) σ) : CodeE P c (.scope x) Q σ := by
  intro B ι a w hR
  refine Et (Code.wpIn_mono (λ e a w hq => ?_) (h B ι a w hR))
  obtain ⟨B', ι', σ', hq, hR'⟩ := hq
  cases e with
  | goto l => exact hq.elim
  | _ => exact ⟨B', ι', σ', hq, hR'⟩
theorem AJJ {l : List Prop} {K K' : Prop} (hK : K -> K') (h : RR l K) : RR l K' := by
  cases l with
  | nil => exact hK h
  | cons => exact ⟨h.1, hK h.2⟩
theorem Ye {Γ : FuncId -> Option Spec} {mt : Bool} {base n : Nat} {ops : Array Oper} {draw : Bool} {K K' : AState -> Prop} (hK : ∀ σ, K σ -> K' σ) (h : VU P Γ mt base n ops draw σ K) : VU P Γ mt base n ops draw σ K' := by
  unfold VU at *
  split at h
  · split at h
    · rename_i hc; rw [if_pos hc]; exact AJJ (hK _) h
    · exact h.elim
  · exact h
end Go.Sym
