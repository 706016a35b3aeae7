/- A region whose appends are told apart, one by one. -/
import Derived.Test.YtdbjalgfomknhaaSym9
import Derived.Maps.RangeRun
set_option linter.unusedVariables false
set_option linter.unusedSimpArgs false
namespace Go.Sym
variable {P : Program} {B B' : JO} {ι ι' : Nat -> Pl} {H H' : Heap} {D : Nat -> Prop} {w w' : World} {c : Ctx} {σ : AState} {Q : Exit -> AState -> Prop}
theorem Rel.frz {a : Act} {id kk n n2 : Nat} {get : Nat -> DVal} {dst : Option Tmp} (h : Rel c B ι σ a w) (hid : σ.H id = .live (.row kk n2 get)) (hv : ∀ d, dst = some d -> σ.sl d = .own id kk 0 n) (hn : n = n2) :
    ∃ B', Rel c B' ι ⟨XU σ.sl dst (.d (.list kk n get false)), BU σ.H id .dead⟩ a w := by
  obtain ⟨B', hm, hF⟩ := GH [id] h.mv.heap
  have hk : BS σ.H [id] = BU σ.H id .dead := by simp only [BS, hid]
  rw [hk] at hm
  have hf : EI σ.H [id] id = some (kk, n2, get) := by simp [EI, hid]
  refine ⟨B', ⟨λ t => ?_, h.size, ?_, h.mv.trans hm⟩⟩
  · simp only [ANQ]
    split
    · rename_i hd
      have := h.slots t
      rw [hv t hd] at this
      exact .d (ARR hF hf rfl (by omega) (λ j _ => by rw [Nat.zero_add]; exact NM _) this)
    · exact hm.vrel (h.slots t)
  · obtain ⟨Ds, h1, h0, h2, h3⟩ := h.defers
    exact ⟨Ds, h1, h0, h2, λ D hD => ⟨(h3 D hD).1, (h3 D hD).2.moved hm⟩⟩
def wB (P : Program) (Γ : FuncId -> Option Spec) (mt : Bool) (ops : Array Oper) (r : Nat) (o : Oper) (σ : AState) (K : AState -> Prop) : Prop := match AVJ P Γ mt ops r σ o with
  | some s => rF (Iu σ.sl o ++ s.pre) (K (σ.app o.dst s.val s.upd))
  | none => False
def CSH (P : Program) (Γ : FuncId -> Option Spec) (ops : Array Oper) (r : Nat) (o : Oper) (σ : AState) (K : AState -> Prop) : Prop := match AVJ P Γ true ops r σ o with
  | some s => match o.dst, s.val with
    | some d, .own id kk 0 n => match CA σ.H s.upd id with
      | .live (.row k2 n2 get) => if Nat.beq kk k2 then rF (Iu σ.sl o ++ (s.pre ++ [n = n2])) (K ⟨XU σ.sl (some d) (.d (.list kk n get false)), BU (CA σ.H s.upd) id .dead⟩) else False
      | _ => False
    | _, _ => False
  | none => False
def CUA (P : Program) (r : Nat) (o : Oper) (σ : AState) (K : AState -> Prop) : Prop := match o.op with
  | .lookup t m ix true => match CJM P σ.H t (AO σ.sl m) (AO σ.sl ix) with
    | some (b, d, z, p) => rF p (bif b then K (σ.app o.dst (.d (.tup [d, .bool true])) []) else K (σ.app o.dst (.d (.tup [ofV z, .bool false])) []))
    | none => False
  | _ => False
def CTZ (P : Program) (r : Nat) (o : Oper) (σ : AState) (K : AState -> Prop) : Prop := match o.op with
  | .buildSlice t len ps => match GF P r t len (ps.toList.map λ p => (p.1, AO σ.sl p.2)) with
    | some ⟨_, [(_, .live (.row k n get))], _⟩ => K (σ.app o.dst (.d (.list k n get true)) [])
    | _ => False
  | _ => False
def BZD (P : Program) (r : Nat) (o : Oper) (σ : AState) (K : AState -> Prop) : Prop := match o.op with
  | .range t m => match ALK P t, Nx σ.H (AO σ.sl m), σ.H r with
    | some _, some (id, _, _, has, _, st, none), .none => K (σ.app o.dst (.bptr r 0) [(r, .live (.miter id has st (λ _ => false) none))])
    | _, _, _ => False
  | _ => False
def CKI (o : Oper) (σ : AState) (K : AState -> Prop) : Prop := match o.op with
  | .next it false => match AO σ.sl it with
    | .bptr id 0 => match σ.H id with
      | .live (.miter m hs st seen _) => match σ.H m with
        | .live (.imap q _ has get st' none) => (∀ n, hs n = has n) /\ (∀ n, st n = st' n) /\ ((∀ n, has n = true -> seen n = true) -> K (σ.app o.dst (.d (.tup [.v (.bool false)])) [])) /\
            ∀ k, has k = true -> seen k = false -> K (σ.app o.dst (.d (.tup [.v (.bool true), .v (.int q k), get k])) [(id, .live (.miter m hs st (λ j => decide (j = k) || seen j) (some k)))])
        | _ => False
      | _ => False
    | _ => False
  | _ => False
def CHF (o : Oper) (σ : AState) (K : AState -> Prop) : Prop := match o.op with
  | .entry it => match AO σ.sl it with
    | .bptr id 0 => match σ.H id with
      | .live (.miter m hs st _ (some k)) => match σ.H m with
        | .live (.imap q _ has get st' none) => (∀ n, hs n = has n) /\ (∀ n, st n = st' n) /\ K (σ.app o.dst (.d (.tup [.v (.int q k), get k])) [])
        | _ => False
      | _ => False
    | _ => False
  | _ => False
def ZW (P : Program) (Γ : FuncId -> Option Spec) (md : Nat -> Nat) (ops : Array Oper) (base n : Nat) (K : AState -> Prop) : List Oper -> Nat -> AState -> Prop
  | [], _, σ => K σ
  | o :: l, k, σ => if BXL n o then match o.guard with
      | none => match md k with
        | 0 => wB P Γ false ops (base + 16 * k) o σ (ZW P Γ md ops base n K l (k + 1))
        | 1 => wB P Γ true ops (base + 16 * k) o σ (ZW P Γ md ops base n K l (k + 1))
        | 3 => CUA P (base + 16 * k) o σ (ZW P Γ md ops base n K l (k + 1))
        | 4 => CTZ P (base + 16 * k) o σ (ZW P Γ md ops base n K l (k + 1))
        | 5 => BZD P (base + 16 * k) o σ (ZW P Γ md ops base n K l (k + 1))
        | 6 => CKI o σ (ZW P Γ md ops base n K l (k + 1))
        | 7 => CHF o σ (ZW P Γ md ops base n K l (k + 1))
        | _ => CSH P Γ ops (base + 16 * k) o σ (ZW P Γ md ops base n K l (k + 1))
      | some (j, want) => match CN ops σ.sl j want with
        | some g => match md k with
          | 8 => rF [g = true] (wB P Γ false ops (base + 16 * k) { o with guard := none } σ (ZW P Γ md ops base n K l (k + 1)))
          | 9 => rF [g = false] (ZW P Γ md ops base n K l (k + 1) (σ.app o.dst (.opt false (.d (.v (.bool false)))) []))
          | 10 => bif g then wB P Γ false ops (base + 16 * k) { o with guard := none } σ (ZW P Γ md ops base n K l (k + 1)) else ZW P Γ md ops base n K l (k + 1) (σ.app o.dst (.opt false (.d (.v (.bool false)))) [])
          | _ => wB P Γ false ops (base + 16 * k) o σ (ZW P Γ md ops base n K l (k + 1))
        | none => False
    else False
theorem ALF {Γ : FuncId -> Option Spec} (hΓ : GOk P Γ) {mt : Bool} {ops : Array Oper} {r : Nat} {o : Oper} {K : AState -> Prop} (h : wB P Γ mt ops r o σ K) : ∃ s : Stp, StepO P mt ops r σ o s.val s.upd s.touch /\ K (σ.app o.dst s.val s.upd) := by
  unfold wB at h
  split at h
  · rename_i s hs
    obtain ⟨h1, h2⟩ := EP h
    obtain ⟨h3, h4⟩ := AS h1
    exact ⟨s, Qv hΓ hs h4 λ _ => h3, h2⟩
  · exact h.elim
theorem Rel.plain {ops : Array Oper} {o : Oper} {a : Act} {v : AVal} {y : Value} {w' : World} {K : Act -> World -> Prop} {Q : Exit -> Act -> World -> Prop} (h : Rel c B ι σ a w) (hg : o.guard = none) (hdst : ∀ d, o.dst = some d -> d < c.n) (hrun : Runs P a.eval o w y w') (hd : EZ B ι σ.H w (CA σ.H []) v y w')
    (hK : ∀ B' ι' a' w', Rel c B' ι' (σ.app o.dst v []) a' w' -> K a' w') : if Region.wanted o (yielded ops a.tmps) then o.wpIn (fG c.rd) 0 P a w K Q else (∀ f, o.about P w a.eval = some f -> (fG c.rd).fn f) /\ K (a.put o.dst undef) w := by
  simp only [Region.wanted, hg, if_true]
  obtain ⟨B', ι', hR'⟩ := h.app hd hdst
  refine ⟨HA o a _, ?_⟩
  rw [Oper.semAt_eq _ _ _ hrun.not_defer]
  rcases hrun with hrun | ⟨hrun, rfl⟩
  · rw [hrun]; exact hK B' ι' _ _ hR'
  · rw [hrun]; exact hK B' ι' _ _ hR'
theorem Rel.plainU {ops : Array Oper} {o : Oper} {a : Act} {v : AVal} {y : Value} {w' : World} {u : List (Nat × HCell)} {K : Act -> World -> Prop} {Q : Exit -> Act -> World -> Prop} (h : Rel c B ι σ a w) (hg : o.guard = none) (hdst : ∀ d, o.dst = some d -> d < c.n) (hrun : Runs P a.eval o w y w') (hd : EZ B ι σ.H w (CA σ.H u) v y w')
    (hK : ∀ B' ι' a' w', Rel c B' ι' (σ.app o.dst v u) a' w' -> K a' w') : if Region.wanted o (yielded ops a.tmps) then o.wpIn (fG c.rd) 0 P a w K Q else (∀ f, o.about P w a.eval = some f -> (fG c.rd).fn f) /\ K (a.put o.dst undef) w := by
  simp only [Region.wanted, hg, if_true]
  obtain ⟨B', ι', hR'⟩ := h.app hd hdst
  refine ⟨HA o a _, ?_⟩
  rw [Oper.semAt_eq _ _ _ hrun.not_defer]
  rcases hrun with hrun | ⟨hrun, rfl⟩
  · rw [hrun]; exact hK B' ι' _ _ hR'
  · rw [hrun]; exact hK B' ι' _ _ hR'
theorem CUK {D : Nat -> Prop} {id : Nat} {v : Value} (h : VRel B ι D (.bptr id 0) v) : v = .pointer (some ⟨(ι id).b, 0, none⟩) := by cases h; rfl
theorem MapIs.free {q : IntKind} {z : Value} {hs : Int -> Bool} {get : Int -> DVal} {st : Int -> Int} {es : Array MapEntry} {clock : Nat} (hM : MapIs B q z hs get st es clock) : ∃ M, hs M = false := by
  have bound : ∀ l : List MapEntry, (∀ e ∈ l, ∃ n, e.key = .int q n) -> ∃ M : Int, ∀ e ∈ l, ∀ n, e.key = .int q n -> n < M := by
    intro l
    induction l with
    | nil => intro _; exact ⟨0, λ e he => by cases he⟩
    | cons x l ih =>
      intro hl
      obtain ⟨M, hM⟩ := ih λ e he => hl e (List.mem_cons_of_mem _ he)
      obtain ⟨n, hn⟩ := hl x (by simp)
      refine ⟨max M (n + 1), λ e he n' hn' => ?_⟩
      rcases List.mem_cons.1 he with rfl | he
      · rw [hn] at hn'; cases hn'; omega
      · have := hM e he n' hn'; omega
  obtain ⟨M, hM'⟩ := bound es.toList hM.intKeys
  refine ⟨M, ?_⟩
  cases hc : hs M with
  | false => rfl
  | true =>
    obtain ⟨i', e', k1, k2⟩ := hM.met M hc
    have := hM' e' (by simpa using Array.mem_of_getElem? k1) M k2
    omega
theorem BVI {r : Nat} {o : Oper} {K : AState -> Prop} {a : Act} (h : BZD P r o σ K) (hR : Rel c B ι σ a w) : ∃ y w' v u, Runs P a.eval o w y w' /\ EZ B ι σ.H w (CA σ.H u) v y w' /\ K (σ.app o.dst v u) := by
  unfold BZD at h
  split at h
  case h_2 => exact h.elim
  rename_i t m ho
  split at h
  case h_2 => exact h.elim
  rename_i qz id q z has get st ht hm hr
  obtain ⟨k, e, hu, _, _⟩ := SP ht
  obtain ⟨hid, hv, es, clock, hb, hM⟩ := LY hm (CT hR.slots m) hR.mv.heap
  have hd : σ.H.dom id := by unfold Heap.dom; rw [hid]; simp
  have hlt : ∀ n, has n = true -> st n < clock := λ n hn => by
    obtain ⟨i, e, h1, h2⟩ := hM.met n hn
    obtain ⟨n', h3, _, h5, h6, _⟩ := hM.keys i e h1
    rw [h2] at h3; cases h3
    omega
  have hne : id ≠ r := λ he => by rw [he, hr] at hid; cases hid
  refine ⟨.pointer (some ⟨w.heap.size, 0, none⟩), w.alloc (.mapIter (some (ι id).b) clock #[] clock), .bptr r 0, [(r, .live (.miter id has st (λ _ => false) none))], .inl ?_, ⟨B, XY ι r ⟨w.heap.size, 0⟩, Moved.new hR.mv.heap hr (q := 0) ?_, ?_⟩, h⟩
  · simp [execOp, ho, hv, Instr.range, run_underlying hu, FQ hb, newObj, Sem.run]
  · have := ORel.miter (B := B) (ι := XY ι r ⟨w.heap.size, 0⟩) (D := (BU σ.H r (.live (.miter id has st (λ _ => false) none))).dom) (q := 0) (m := id) (hs := has) (st := st) (seen := λ _ => false) (cur := none) (since := clock) (stepped := clock) (sn := #[])
      (by unfold Heap.dom; rw [CX _ _ hne]; exact hd) (Nat.le_refl _) (λ n => ⟨hlt n, λ hn => by rw [(hM.miss n hn).2]; exact Int.le_refl _⟩) (λ n hn => by cases hn) (λ k => by simp) (λ k hk => by cases hk)
    rw [KT _ _ hne] at this; exact this
  · have := VRel.bptr (B := B) (ι := XY ι r ⟨w.heap.size, 0⟩) (D := (BU σ.H r (.live (.miter id has st (λ _ => false) none))).dom) (id := r) (c := 0) (Yn _)
    rw [CJ] at this; exact this
theorem BJW {id m : Nat} {hs : Int -> Bool} {st : Int -> Int} {seen : Int -> Bool} {cur : Option Int} (hid : σ.H id = .live (.miter m hs st seen cur)) (hH : HRel B ι σ.H w) : ∃ since stepped sn, w.heap[(ι id).b]? = some (.mapIter (some (ι m).b) since sn stepped) /\ σ.H.dom m /\ since <= stepped /\ (∀ n : Int, (hs n = true -> st n < since) /\ (hs n = false -> (since : Int) <= st n)) /\
    (∀ n : Int, seen n = true -> hs n = true) /\ (∀ k : Nat, sn.contains k = true ↔ ∃ n : Int, seen n = true /\ st n = k) /\ ∀ k : Int, cur = some k -> hs k = true /\ (∀ n : Int, hs n = false -> st n = stepped) /\ ∃ (sn' : Array Nat) (b : Nat), sn = sn'.push b /\ st k = b := by
  have ho := hH.obj _ _ hid
  generalize hq : w.heap[(ι id).b]? = x at ho
  cases ho with
  | miter hD h1 h2 h3 h4 h5 => exact ⟨_, _, _, rfl, hD, h1, h2, h3, h4, h5⟩
theorem BXR {o : Oper} {K : AState -> Prop} {a : Act} (h : CKI o σ K) (hR : Rel c B ι σ a w) : ∃ y w' v u, Runs P a.eval o w y w' /\ EZ B ι σ.H w (CA σ.H u) v y w' /\ K (σ.app o.dst v u) := by
  unfold CKI at h
  split at h
  case h_2 => exact h.elim
  rename_i it ho
  split at h
  case h_2 => exact h.elim
  rename_i id hit
  split at h
  case h_2 => exact h.elim
  rename_i m hs st seen cur hid
  split at h
  case h_2 => exact h.elim
  rename_i q z has get st' hmm
  obtain ⟨e1, e2, hK1, hK2⟩ := h
  obtain rfl : hs = has := funext e1
  obtain rfl : st = st' := funext e2
  have hv := CT hR.slots it
  rw [hit] at hv
  have hv := CUK hv
  have hH := hR.mv.heap
  obtain ⟨since, stepped, sn, hi, hD, s1, s2, s3, s4, s5⟩ := BJW hid hH
  have hob := hH.obj _ _ hmm
  generalize hq : w.heap[(ι m).b]? = x at hob
  cases hob with
  | imap hM =>
  rename_i es clock
  have hold : ∀ x ∈ es.toList, x.born < since := λ x hx => by
    obtain ⟨i, hi, rfl⟩ := List.getElem_of_mem hx
    obtain ⟨n, _, h2, _, h4, _⟩ := hM.keys i es[i] (by simp at hi; simp [hi])
    have := (s2 n).1 h2
    simp only [Array.getElem_toList]; omega
  rcases run_next_at (P := P) w o.type (ι id).b (ι m).b since stepped sn es clock hi hq hold s1 with ⟨h0, hrun⟩ | ⟨e, he, w1, hw1, hrun⟩
  · refine ⟨.tuple #[.bool false], w, _, [], .inl (by simp [execOp, ho, hv, hrun, Result.andThen]), ⟨B, ι, Moved.refl hH, .d (.tup rfl λ j x y hx hy => ?_)⟩, hK1 λ n hn => ?_⟩
    · match j with
      | 0 => simp at hx hy; subst hx; subst hy; exact .v _
      | j + 1 => simp at hx
    · obtain ⟨i, e, h1, h2⟩ := hM.met n hn
      obtain ⟨n', h3, _, _, h6, _⟩ := hM.keys i e h1
      rw [h2] at h3; cases h3
      have hc : sn.contains e.born = true := by
        cases hc : sn.contains e.born with
        | true => rfl
        | false =>
          have : e ∈ leftOf es sn := by
            unfold leftOf
            rw [Array.mem_filter]
            exact ⟨Array.mem_of_getElem? h1, by rw [hc]; rfl⟩
          have := Array.size_pos_of_mem this
          omega
      obtain ⟨n', g1, g2⟩ := (s4 e.born).1 hc
      obtain ⟨i', e', k1, k2⟩ := hM.met n' (s3 n' g1)
      obtain ⟨n2, k3, _, _, k6, _⟩ := hM.keys i' e' k1
      rw [k2] at k3; cases k3
      have := hM.once i i' e e' h1 k1 (.inr (by omega))
      subst this
      rw [h1] at k1; cases k1
      rw [h2] at k2; cases k2
      exact g1
  · have hem : e ∈ es.toList /\ sn.contains e.born = false := by
      unfold leftOf at he
      simp only [Array.toList_filter, List.mem_filter, Bool.not_eq_true'] at he
      exact he
    obtain ⟨i, hi', hei⟩ := List.getElem_of_mem hem.1
    have h1 : es[i]? = some e := by rw [<- hei]; simp at hi'; simp [hi']
    obtain ⟨k, h2, h3, h4, h5, h6⟩ := hM.keys i e h1
    have hsk : seen k = false := by
      cases hc : seen k with
      | false => rfl
      | true => rw [(s4 e.born).2 ⟨k, hc, h5.symm⟩] at hem; exact absurd hem.2 (by simp)
    have mv1 : Moved B ι σ.H w B ι σ.H w1 := by
      rcases hw1 with rfl | rfl
      · exact Moved.refl hH
      · exact Moved.drew hH _
    refine ⟨.tuple #[.bool true, e.key, e.val], _, _, _, .inl (by simp [execOp, ho, hv, hrun, Result.andThen]; rfl), ?_, hK2 k h3 hsk⟩
    have ht := Moved.turn (o := .miter m hs st (λ j => decide (j = k) || seen j) (some k)) mv1.heap hid (x := .mapIter (some (ι m).b) since (sn.push e.born) clock) (.miter (by
        unfold Heap.dom BU; split
        · simp
        · exact hD) (by
        obtain ⟨M, hM0⟩ := hM.free
        have := (s2 M).2 hM0
        have := (hM.miss M hM0).2
        omega) s2 (λ n hn => by
        simp only [Bool.or_eq_true, decide_eq_true_eq] at hn
        rcases hn with rfl | hn
        · exact h3
        · exact s3 n hn) (λ b => by
        rw [Array.contains_push]
        simp only [Bool.or_eq_true, beq_iff_eq, s4 b, decide_eq_true_eq]
        constructor
        · rintro (⟨n, g1, g2⟩ | rfl)
          · exact ⟨n, .inr g1, g2⟩
          · exact ⟨k, .inl rfl, h5.symm⟩
        · rintro ⟨n, rfl | g1, g2⟩
          · right; omega
          · exact .inl ⟨n, g1, g2⟩) λ k' hk' => by
        cases hk'
        exact ⟨h3, λ n hn => (hM.miss n hn).2, sn, e.born, rfl, h5.symm⟩)
    refine ⟨B, ι, mv1.trans ht, .d (.tup rfl λ j x y hx hy => ?_)⟩
    match j with
    | 0 => simp at hx hy; subst hx; subst hy; exact .v _
    | 1 => simp at hx hy; subst hx; subst hy; rw [h2]; exact .v _
    | 2 => simp at hx hy; subst hx; subst hy; exact h6
    | j + 3 => simp at hx
theorem BYK {o : Oper} {K : AState -> Prop} {a : Act} (h : CHF o σ K) (hR : Rel c B ι σ a w) : ∃ y w' v u, Runs P a.eval o w y w' /\ EZ B ι σ.H w (CA σ.H u) v y w' /\ K (σ.app o.dst v u) := by
  unfold CHF at h
  split at h
  case h_2 => exact h.elim
  rename_i it ho
  split at h
  case h_2 => exact h.elim
  rename_i id hit
  split at h
  case h_2 => exact h.elim
  rename_i m hs st seen k hid
  split at h
  case h_2 => exact h.elim
  rename_i q z has get st' hmm
  obtain ⟨e1, e2, hK⟩ := h
  obtain rfl : hs = has := funext e1
  obtain rfl : st = st' := funext e2
  have hv := CT hR.slots it
  rw [hit] at hv
  have hv := CUK hv
  have hH := hR.mv.heap
  obtain ⟨since, stepped, sn, hi, hD, s1, s2, s3, s4, s5⟩ := BJW hid hH
  obtain ⟨h3, hmiss, sn', b, rfl, hb⟩ := s5 k rfl
  have hob := hH.obj _ _ hmm
  generalize hq : w.heap[(ι m).b]? = x at hob
  cases hob with
  | imap hM =>
  rename_i es clock
  obtain ⟨i, e, h1, h2⟩ := hM.met k h3
  obtain ⟨n', g1, _, _, h5, h6⟩ := hM.keys i e h1
  rw [h2] at g1; cases g1
  have hcl : stepped = clock := by
    obtain ⟨M, hno⟩ := hM.free
    have a1 := hmiss M hno
    have a2 := (hM.miss M hno).2
    omega
  subst hcl
  obtain rfl : b = e.born := by omega
  have hnd : (es.toList.map (·.born)).Nodup := by
    rw [List.nodup_iff_pairwise_ne, List.pairwise_map, List.pairwise_iff_getElem]
    intro i j hi hj hij he
    have := hM.once i j es[i] es[j] (by simp at hi; simp [hi]) (by simp at hj; simp [hj]) (.inr (by simpa using he))
    omega
  have hrun := run_entry_at (P := P) w (ι id).b (ι m).b since sn' es stepped e hi hq (by simpa using Array.mem_of_getElem? h1) hnd
  refine ⟨.tuple #[e.key, e.val], w, _, [], .inl (by simp [execOp, ho, hv, hrun, Result.andThen]), ⟨B, ι, Moved.refl hH, .d (.tup rfl λ j x y hx hy => ?_)⟩, hK⟩
  match j with
  | 0 => simp at hx hy; subst hx; subst hy; rw [h2]; exact .v _
  | 1 => simp at hx hy; subst hx; subst hy; exact h6
  | j + 2 => simp at hx
theorem ER {Γ : FuncId -> Option Spec} (hΓ : GOk P Γ) {md : Nat -> Nat} {ops : Array Oper} {base : Nat} : ∀ (l : List Oper) (k : Nat) (σ : AState), ZW P Γ md ops base c.n (Q .normal) l k σ -> ∀ B ι a w, Rel c B ι σ a w ->
    wpListIn (fG c.rd) 0 P ops (λ e a' w' => ∃ B' ι' σ', Q e σ' /\ Rel c B' ι' σ' a' w') l a w
  | [], _, σ, h, B, ι, _, _, hR => ⟨B, ι, σ, h, hR⟩
  | o :: l, k, σ, h, B, ι, a, w, hR => by
    unfold ZW at h
    split at h
    case isFalse => exact h.elim
    rename_i hc
    have hd := qM hc
    have step : ∀ {mt : Bool}, wB P Γ mt ops (base + 16 * k) o σ (ZW P Γ md ops base c.n (Q .normal) l (k + 1)) -> wpListIn (fG c.rd) 0 P ops (λ e a' w' => ∃ B' ι' σ', Q e σ' /\ Rel c B' ι' σ' a' w') (o :: l) a w := λ h => by
      obtain ⟨s, h1, h2⟩ := ALF hΓ h
      exact h1.sound hR hd λ B' ι' a' w' hR' => ER hΓ l (k + 1) _ h2 B' ι' a' w' hR'
    have met : ∀ {j : Nat} {want : Bool}, o.guard = some (j, want) -> CN ops σ.sl j want = some true -> wB P Γ false ops (base + 16 * k) { o with guard := none } σ (ZW P Γ md ops base c.n (Q .normal) l (k + 1)) -> wpListIn (fG c.rd) 0 P ops (λ e a' w' => ∃ B' ι' σ', Q e σ' /\ Rel c B' ι' σ' a' w') (o :: l) a w := λ hgd hgA hk => by
      obtain ⟨s, h1, h2⟩ := ALF hΓ hk
      have hw := PN hgd hgA hR.slots
      unfold wpListIn
      show if Region.wanted o (yielded ops a.tmps) then _ else _
      rw [hw]
      have := h1.sound (Q := (λ e a' w' => ∃ B' ι' σ', Q e σ' /\ Rel c B' ι' σ' a' w')) hR hd λ B' ι' a' w' hR' => ER hΓ l (k + 1) _ h2 B' ι' a' w' hR'
      simp only [Region.wanted, if_true] at this
      rw [if_pos rfl]
      exact this
    have unmet : ∀ {j : Nat} {want : Bool}, o.guard = some (j, want) -> CN ops σ.sl j want = some false -> ZW P Γ md ops base c.n (Q .normal) l (k + 1) (σ.app o.dst (.opt false (.d (.v (.bool false)))) []) -> wpListIn (fG c.rd) 0 P ops (λ e a' w' => ∃ B' ι' σ', Q e σ' /\ Rel c B' ι' σ' a' w') (o :: l) a w := λ hgd hgA hk => by
      have hw := PN hgd hgA hR.slots
      unfold wpListIn
      show if Region.wanted o (yielded ops a.tmps) then _ else _
      rw [hw, if_neg (by simp)]
      obtain ⟨B', ι', hR'⟩ := hR.app (dst := o.dst) (v := .opt false (.d (.v (.bool false)))) (y := undef) (u := []) ⟨B, ι, Moved.refl hR.mv.heap, .opt (λ h => by cases h) (λ _ => rfl)⟩ hd
      exact ⟨HA o a _, ER hΓ l (k + 1) _ hk B' ι' _ _ hR'⟩
    split at h
    case h_2 =>
      rename_i j want hgd
      split at h
      case h_2 => exact h.elim
      rename_i g hgA
      split at h
      · obtain ⟨hgt, hk⟩ := EP h
        have hgt : g = true := hgt
        subst hgt
        exact met hgd hgA hk
      · obtain ⟨hgt, hk⟩ := EP h
        have hgt : g = false := hgt
        subst hgt
        exact unmet hgd hgA hk
      · cases g with
        | true => exact met hgd hgA h
        | false => exact unmet hgd hgA h
      · exact step h
    rename_i hg
    split at h
    · exact step h
    · exact step h
    · unfold CUA at h
      split at h
      case h_2 => exact h.elim
      rename_i t m ix ho
      split at h
      case h_2 => exact h.elim
      rename_i b d z p hl
      obtain ⟨hp, h⟩ := EP h
      obtain ⟨v, hrun, h1, h2⟩ := BYP hl hp (CT hR.slots m) (CT hR.slots ix) hR.mv.heap
      have hr : Runs P a.eval o w (.tuple #[v, .bool b]) w := .inl (by simp only [execOp, ho, Sem.run_bind, hrun, Result.andThen_ok, Sem.run_pure])
      cases b with
      | true =>
        refine hR.plain hg hd hr ⟨B, ι, Moved.refl hR.mv.heap, .d (.tup rfl λ j x y hx hy => ?_)⟩ λ B' ι' a' w' hR' => ER hΓ l (k + 1) _ h B' ι' a' w' hR'
        match j with
        | 0 => simp at hx hy; subst hx; subst hy; exact h1 rfl
        | 1 => simp at hx hy; subst hx; subst hy; exact .v _
        | j + 2 => simp at hx
      | false =>
        refine hR.plain hg hd hr ⟨B, ι, Moved.refl hR.mv.heap, .d (.tup rfl λ j x y hx hy => ?_)⟩ λ B' ι' a' w' hR' => ER hΓ l (k + 1) _ h B' ι' a' w' hR'
        match j with
        | 0 => simp at hx hy; subst hx; subst hy; rw [h2 rfl]; exact BMM z
        | 1 => simp at hx hy; subst hx; subst hy; exact .v _
        | j + 2 => simp at hx
    · unfold CTZ at h
      split at h
      case h_2 => exact h.elim
      rename_i t len ps ho
      split at h
      case h_2 => exact h.elim
      rename_i v0 r0 kk n get p0 hb
      obtain ⟨k', n', get', y, w', he, h1, h2⟩ := Iv (parts := ps.map λ x => (x.1, a.eval x.2)) hb hR.mv.heap (by simp) (λ j x y hx hy => by
        obtain ⟨z, hz, rfl⟩ := He hx
        rw [Array.getElem?_toList] at hz
        simp [hz] at hy
        subst hy
        exact ⟨rfl, CT hR.slots z.2⟩)
      simp only [Eff.mk.injEq, List.cons.injEq, Prod.mk.injEq, HCell.live.injEq, AObj.row.injEq, and_true] at he
      obtain ⟨_, ⟨_, rfl, rfl, rfl⟩, _⟩ := he
      exact hR.plain hg hd (.inl (by simp [execOp, ho, h1])) h2 λ B' ι' a' w' hR' => ER hΓ l (k + 1) _ h B' ι' a' w' hR'
    · obtain ⟨y, w1, v, u, h1, h2, h3⟩ := BVI h hR
      exact hR.plainU hg hd h1 h2 λ B' ι' a' w' hR' => ER hΓ l (k + 1) _ h3 B' ι' a' w' hR'
    · obtain ⟨y, w1, v, u, h1, h2, h3⟩ := BXR h hR
      exact hR.plainU hg hd h1 h2 λ B' ι' a' w' hR' => ER hΓ l (k + 1) _ h3 B' ι' a' w' hR'
    · obtain ⟨y, w1, v, u, h1, h2, h3⟩ := BYK h hR
      exact hR.plainU hg hd h1 h2 λ B' ι' a' w' hR' => ER hΓ l (k + 1) _ h3 B' ι' a' w' hR'
    · unfold CSH at h
      split at h
      case h_2 => exact h.elim
      rename_i s hs
      split at h
      case h_2 => exact h.elim
      rename_i d id kk n hdst hval
      split at h
      case h_2 => exact h.elim
      rename_i k2 n2 get hid
      split at h
      case isFalse => exact h.elim
      rename_i hkk
      rw [DC] at hkk
      subst hkk
      obtain ⟨h1, h2⟩ := EP h
      obtain ⟨h3, h4⟩ := AS h1
      obtain ⟨h5, h6⟩ := AS h4
      have st := Qv hΓ hs h5 λ _ => h3
      refine st.sound hR hd λ B' ι' a' w' hR' => ?_
      obtain ⟨B2, hR2⟩ := hR'.frz (dst := some d) (n := n) (get := get) (id := id) hid (λ d' hd' => by
        cases hd'
        simp only [AState.app, ANQ, hdst, if_true]; exact hval) h6
      have e : (⟨XU (σ.app o.dst s.val s.upd).sl (some d) (.d (.list kk n get false)), BU (σ.app o.dst s.val s.upd).H id .dead⟩ : AState) = ⟨XU σ.sl (some d) (.d (.list kk n get false)), BU (CA σ.H s.upd) id .dead⟩ := by
        simp only [AState.app, hdst]
        congr 1
        funext t
        simp only [ANQ]
        split <;> rfl
      rw [e] at hR2
      exact ER hΓ l (k + 1) _ h2 B2 ι' a' w' hR2
theorem BJE {Γ : FuncId -> Option Spec} (hΓ : GOk P Γ) {md : Nat -> Nat} {ops : Array Oper} {base id : Nat} (h : ZW P Γ md ops base c.n (Q .normal) ops.toList 0 σ) : CodeE P c (.region id ops false) Q σ :=
  λ B ι a w hR => wpIn_region_list (ER hΓ ops.toList 0 σ h B ι a w hR)
end Go.Sym

namespace Go.Sym
variable {P : Program} {B B' : JO} {ι ι' : Nat -> Pl} {H H' : Heap} {D : Nat -> Prop} {w w' : World}
structure Ctr where
  α : Type
  xs : α -> List AVal
  L : α -> List (Nat × AObj) := λ _ => []
  val : α -> AVal
  keep : α -> List (Nat × HCell) := λ _ => []
  pre : α -> List Prop := λ _ => []
  /-- names whose objects the caller goes on to know as before -/
  ro : List Nat := []
def CZM (P : Program) (g : FuncId) (C : Ctr) : Prop := ∀ a, BC (C.pre a) -> FnT P g (C.xs a) (AG (C.L a)) (C.val a) (C.keep a)
def AAG (F : Yd) (ρ : Nat -> Nat) (p : Nat -> Bool) (H : Heap) : List (Nat × AObj) -> Option (List Prop)
  | [] => some []
  | (i, o) :: r => Dw (ALR F ρ p (.live o) (H (ρ i))) (AAG F ρ p H r)
theorem gJ {F : Yd} {ρ : Nat -> Nat} {p : Nat -> Bool} {H : Heap} : ∀ {l : List (Nat × AObj)}, BX (AAG F ρ p H l) -> ∀ i o, (i, o) ∈ l -> ∃ o', H (ρ i) = .live o' /\ BX (PK F ρ p o o')
  | [], _, i, o, h => by cases h
  | (j, x) :: r, h, i, o, hm => by
    obtain ⟨h1, h2⟩ := CB h
    rcases List.mem_cons.1 hm with hm | hm
    · cases hm
      cases hq : H (ρ j) with
      | live o' => rw [hq] at h1; exact ⟨o', rfl, h1⟩
      | none => rw [hq] at h1; simp only [ALR] at h1; exact h1.elim
      | dead => rw [hq] at h1; simp only [ALR] at h1; exact h1.elim
    · exact gJ h2 i o hm
def AWC : HCell -> Bool
  | .live (.row _ _ _) => true
  | _ => false
def noF : Yd := λ _ => none
def T2 (H : Heap) (ρ : Nat -> Nat) (L : List (Nat × AObj)) (ro : List Nat) : List (Nat × HCell) -> Option (List Prop)
  | [] => some []
  | (i, c) :: r => if ro.contains i then match H (ρ i), c with
      | .live o', .live o => if (CY L i).isSome then Dw (PK noF (λ j => j) (λ j => L.any λ x => Nat.beq (ρ x.1) j) o' (S1 ρ o)) (T2 H ρ L ro r) else none
      | _, _ => none
    else T2 H ρ L ro r
theorem oW {H : Heap} {ρ : Nat -> Nat} {L : List (Nat × AObj)} {ro : List Nat} : ∀ {l : List (Nat × HCell)}, BX (T2 H ρ L ro l) -> ∀ i c, (i, c) ∈ l -> i ∈ ro -> ∃ o' o, H (ρ i) = .live o' /\ c = .live o /\ (CY L i).isSome = true /\ BX (PK noF (λ j => j) (λ j => L.any λ x => Nat.beq (ρ x.1) j) o' (S1 ρ o))
  | [], _, i, c, h, _ => by cases h
  | (j, x) :: r, h, i, c, hm, hi => by
    simp only [T2] at h
    rcases List.mem_cons.1 hm with hm1 | hm1
    · cases hm1
      rw [if_pos (by simpa using hi)] at h
      split at h
      · rename_i o' o h1
        split at h
        · rename_i h2
          exact ⟨o', o, h1, rfl, h2, (CB h).1⟩
        · exact h.elim
      · exact h.elim
    · split at h
      · split at h
        · split at h
          · exact oW (CB h).2 i c hm1 hi
          · exact h.elim
        · exact h.elim
      · exact oW h i c hm1 hi
theorem Moved.weakH {H1 H2 : Heap} (m : Moved B ι H w B' ι' H1 w') (hd : ∀ i, H2.dom i ↔ H1.dom i) (ho : ∀ i o, H2 i = .live o -> ∃ o1, H1 i = .live o1 /\ ∀ x, ORel B' ι' H1.dom (ι' i).cap o1 x -> ORel B' ι' H2.dom (ι' i).cap o x) : Moved B ι H w B' ι' H2 w' := by
  refine ⟨m.bm, m.bn, λ i hi => ⟨(hd i).2 (m.im i hi).1, (m.im i hi).2⟩, ⟨λ i o hi => ?_, λ i j o o' hi hj h => ?_, λ i o hi => ?_, m.heap.imm⟩, λ i o hi => ?_, m.frame, m.size, m.calm⟩
  · obtain ⟨o1, h1, h2⟩ := ho i o hi
    exact h2 _ (m.heap.obj i o1 h1)
  · obtain ⟨o1, h1, _⟩ := ho i o hi
    obtain ⟨o2, h2, _⟩ := ho j o' hj
    exact m.heap.inj i j o1 o2 h1 h2 h
  · obtain ⟨o1, h1, _⟩ := ho i o hi
    exact m.heap.sep i o1 h1
  · obtain ⟨o1, h1, _⟩ := ho i o hi
    exact m.own i o1 h1
def Ctr.keepW (C : Ctr) (a : C.α) : List (Nat × HCell) := (C.keep a).filter λ x => !C.ro.contains x.1
def Ctr.spec (C : Ctr) (dec : List AVal -> Heap -> Option (C.α × List (Nat × Nat) × List Nat)) : Spec := λ xs H r => match dec xs H with
  | none => none
  | some (a, l, fz) => if ALJ (C.xs a) (C.L a) (C.val a) (C.keep a) (λ i => if (CY (C.L a) i).isSome then DO l i else r + i) r && nodup fz && fz.all (λ i => AWC (H i)) then
      match Dw (EC (EI H fz) (λ i => if (CY (C.L a) i).isSome then DO l i else r + i) (λ i => (CY (C.L a) i).isSome) (C.xs a) xs)
          (Dw (AAG (EI H fz) (λ i => if (CY (C.L a) i).isSome then DO l i else r + i) (λ i => (CY (C.L a) i).isSome) (BS H fz) (C.L a))
            (T2 (BS H fz) (λ i => if (CY (C.L a) i).isSome then DO l i else r + i) (C.L a) C.ro (C.keep a))) with
      | some p => some ⟨fz ++ (C.L a).map λ x => DO l x.1, UD (λ i => if (CY (C.L a) i).isSome then DO l i else r + i) (C.val a), (fz.map λ i => (i, .dead)) ++ NL (λ i => if (CY (C.L a) i).isSome then DO l i else r + i) (C.keepW a), p ++ C.pre a⟩
      | none => none
    else none
theorem ALL : ∀ (u v : List (Nat × HCell)) (H : Heap), CA H (u ++ v) = CA (CA H u) v
  | [], _, _ => rfl
  | (i, c) :: u, v, H => by simp only [List.cons_append, CA]; exact ALL u v _
theorem qY : ∀ (fz : List Nat) (H : Heap), fz.Nodup -> (∀ i ∈ fz, AWC (H i) = true) -> CA H (fz.map λ i => (i, .dead)) = BS H fz
  | [], _, _, _ => rfl
  | i :: r, H, hn, hr => by
    have h1 := hr i (by simp)
    simp only [List.map_cons, CA, BS]
    have hn' := List.nodup_cons.1 hn
    have h2 : ∀ j ∈ r, AWC (BU H i .dead j) = true := λ j hj => by
      rw [CX _ _ (show j ≠ i from λ he => hn'.1 (he ▸ hj))]
      exact hr j (by simp [hj])
    cases hq : H i with
    | live o => cases o with
      | row => simp only; exact qY r _ hn'.2 h2
      | _ => rw [hq] at h1; cases h1
    | _ => rw [hq] at h1; cases h1
theorem OU : ∀ (ids : List Nat) {H : Heap} {i : Nat}, H i = .none -> BS H ids i = .none
  | [], _, _, h => h
  | id :: r, H, i, h => by
    simp only [BS]
    cases hq : H id with
    | live o => cases o with
      | row =>
        simp only
        refine OU r ?_
        rw [CX]
        · exact h
        · intro he; rw [he, hq] at h; cases h
      | _ => exact OU r h
    | _ => exact OU r h
theorem ALS {fz : List Nat} (h : ∀ i ∈ fz, H' i = H i) : EI H' fz = EI H fz := by
  funext i
  unfold EI
  split
  · rename_i hi; rw [h i (by simpa using hi)]
  · rfl
theorem Kr : ∀ (fz : List Nat) {H H' : Heap} (i : Nat), fz.Nodup -> (∀ j ∈ fz, H' j = H j) -> (i ∉ fz -> H' i = H i) -> BS H' fz i = BS H fz i
  | [], _, _, i, _, _, h => h (by simp)
  | j :: r, H, H', i, hn, hf, h => by
    have hn' := List.nodup_cons.1 hn
    have e := hf j (by simp)
    simp only [BS, e]
    have go : ∀ (K K' : Heap), (∀ k ∈ r, K' k = K k) -> (i ∉ r -> K' i = K i) -> BS K' r i = BS K r i := λ K K' h1 h2 => Kr r i hn'.2 h1 h2
    have up : ∀ x, BS (BU H' j x) r i = BS (BU H j x) r i := λ x => by
      refine go _ _ (λ k hk => ?_) (λ hi => ?_)
      · have hne : k ≠ j := λ he => hn'.1 (he ▸ hk)
        rw [CX _ _ hne, CX _ _ hne]; exact hf k (by simp [hk])
      · by_cases he : i = j
        · subst he; rw [DF, DF]
        · rw [CX _ _ he, CX _ _ he]; exact h (by simp [he, hi])
    have same : BS H' r i = BS H r i := go _ _ (λ k hk => hf k (by simp [hk])) λ hi => by
      by_cases he : i = j
      · subst he; exact e
      · exact h (by simp [he, hi])
    cases H j with
    | live o => cases o with
      | row => exact up _
      | _ => exact same
    | _ => exact same
theorem Ctr.spec_ok {C : Ctr} {g : FuncId} (h : CZM P g C) (dec : List AVal -> Heap -> Option (C.α × List (Nat × Nat) × List Nat)) : AM P g (C.spec dec) := by
  intro xs H r x hx hp
  unfold Ctr.spec at hx
  split at hx
  · cases hx
  · rename_i a l fz hd
    generalize hρ : (λ i => if (CY (C.L a) i).isSome then DO l i else r + i) = ρ at hx
    have hρL : ∀ i o, CY (C.L a) i = some o -> ρ i = DO l i := λ i o ho => by rw [<- hρ]; simp [ho]
    split at hx
    · rename_i hok
      simp only [Bool.and_eq_true, List.all_eq_true] at hok
      obtain ⟨⟨ok1, ok2⟩, ok3⟩ := hok
      have hnd := GK ok2
      split at hx
      · rename_i p hc
        cases hx
        obtain ⟨hp1, hp2⟩ := AS hp
        have hc' : BX (Dw (EC (EI H fz) ρ (λ i => (CY (C.L a) i).isSome) (C.xs a) xs) (Dw (AAG (EI H fz) ρ (λ i => (CY (C.L a) i).isSome) (BS H fz) (C.L a)) (T2 (BS H fz) ρ (C.L a) C.ro (C.keep a)))) := by rw [hc]; exact hp1
        obtain ⟨h1, h2⟩ := CB hc'
        obtain ⟨h2, hro⟩ := CB h2
        have hfn := h a hp2
        intro H' hcells hfresh
        have hfz : ∀ i ∈ fz, H' i = H i := λ i hi => hcells (i, H i) (List.mem_map.2 ⟨i, by simp [hi], rfl⟩)
        have hL : ∀ i o, CY (C.L a) i = some o -> H' (ρ i) = H (ρ i) := λ i o ho => by
          have hm := TX ho
          rw [hρL i o ho]
          exact hcells (DO l i, H (DO l i)) (List.mem_map.2 ⟨DO l i, List.mem_append_right _ (List.mem_map.2 ⟨(i, o), hm, rfl⟩), rfl⟩)
        refine ⟨hfn.1, λ B ι w vs ha hH => ?_⟩
        obtain ⟨B', hk, hF⟩ := GH fz hH
        rw [ALS hfz] at hF
        have hdom : ∀ i, (CY (C.L a) i).isSome = true -> (AG (C.L a)).dom i := λ i hi => by
          unfold Heap.dom AG
          obtain ⟨o, ho⟩ := Option.isSome_iff_exists.1 hi
          rw [ho]; simp
        have hcall := FnT.at hfn ρ r ok1 (BS H' fz) (λ i h3 h4 => OU fz (hfresh i h3 h4)) hk.heap (vs := vs)
          ⟨by rw [ha.1, FR h1], λ j x y hx hy => by
            obtain ⟨x', hx', hs⟩ := GJ h1 hx
            exact OG hF hdom _ _ _ hs (ha.2 j _ y hx' hy)⟩
          (λ i o ho => by
            obtain ⟨o', h3, h4⟩ := gJ h2 i o (TX ho)
            rw [<- Kr (H := H) (H' := H') fz (ρ i) hnd hfz λ _ => hL i o ho] at h3
            exact ⟨⟨o', h3⟩, WB hF hdom h4 (hH.obj _ _ (LX fz h3))⟩)
        refine Calls.mono hcall λ e w' hh => ?_
        obtain ⟨v, rfl, B2, ι2, h3, h4⟩ := hh
        rw [ALL, qY fz H' hnd λ i hi => by rw [hfz i hi]; exact ok3 i hi]
        -- what the caller knows of the objects that are only read
        have hK : BS H' fz = BS H' fz := rfl
        have hemb := ok1
        simp only [ALJ, Bool.and_eq_true, List.all_eq_true] at hemb
        obtain ⟨⟨⟨⟨⟨_, _⟩, e3⟩, e4⟩, _⟩, e6⟩ := hemb
        have hnk := GK e6
        have hnw : ((C.keepW a).map λ x => ρ x.1).Nodup := (List.Sublist.map (λ x : Nat × HCell => ρ x.1) List.filter_sublist).nodup hnk
        have in1 : ∀ i c, (i, c) ∈ C.keep a -> CA (BS H' fz) (NL ρ (C.keep a)) (ρ i) = renC ρ c := λ i c hi => PS _ hnk hi
        have in2 : ∀ i c, (i, c) ∈ C.keep a -> ¬ i ∈ C.ro -> CA (BS H' fz) (NL ρ (C.keepW a)) (ρ i) = renC ρ c := λ i c hi hn => PS _ hnw (List.mem_filter.2 ⟨hi, by simpa using hn⟩)
        have out1 : ∀ j, (∀ i c, (i, c) ∈ C.keep a -> ρ i ≠ j) -> CA (BS H' fz) (NL ρ (C.keep a)) j = BS H' fz j := λ j hj => JI _ _ _ (by
          rw [BDE]; intro hm
          obtain ⟨⟨i, c⟩, q1, q2⟩ := List.mem_map.1 hm
          exact hj i c q1 q2)
        have out2 : ∀ j, (∀ i c, (i, c) ∈ C.keep a -> ¬ i ∈ C.ro -> ρ i ≠ j) -> CA (BS H' fz) (NL ρ (C.keepW a)) j = BS H' fz j := λ j hj => JI _ _ _ (by
          rw [BDE]; intro hm
          obtain ⟨⟨i, c⟩, q1, q2⟩ := List.mem_map.1 hm
          obtain ⟨q3, q4⟩ := List.mem_filter.1 q1
          exact hj i c q3 (by simpa using q4) q2)
        have inro : ∀ i c, (i, c) ∈ C.keep a -> i ∈ C.ro -> ∃ o' o, BS H' fz (ρ i) = .live o' /\ c = .live o /\ CA (BS H' fz) (NL ρ (C.keepW a)) (ρ i) = .live o' /\ BX (PK noF (λ j => j) (λ j => (C.L a).any λ x => Nat.beq (ρ x.1) j) o' (S1 ρ o)) := λ i c hi hr => by
          obtain ⟨o', o, q1, q2, q3, q4⟩ := oW hro i c hi hr
          obtain ⟨oL, hoL⟩ := Option.isSome_iff_exists.1 q3
          have q5 : BS H' fz (ρ i) = .live o' := by rw [Kr (H := H) (H' := H') fz (ρ i) hnd hfz λ _ => hL i oL hoL]; exact q1
          refine ⟨o', o, q5, q2, ?_, q4⟩
          rw [out2]
          · exact q5
          · intro i' c' hi' hn' he
            exact hn' ((iP hnk hi' hi he).1 ▸ hr)
        have caseJ : ∀ j, (∃ i c, (i, c) ∈ C.keep a /\ ρ i = j) ∨ (∀ i c, (i, c) ∈ C.keep a -> ρ i ≠ j) := λ j => by
          by_cases hj : ∃ i c, (i, c) ∈ C.keep a /\ ρ i = j
          · exact .inl hj
          · exact .inr λ i c h1 h2 => hj ⟨i, c, h1, h2⟩
        have hd12 : ∀ j, (CA (BS H' fz) (NL ρ (C.keepW a))).dom j ↔ (CA (BS H' fz) (NL ρ (C.keep a))).dom j := λ j => by
          rcases caseJ j with ⟨i, c, hi, rfl⟩ | hn
          · have hcn : renC ρ c ≠ .none := by
              have := (e4 (i, c) hi).1.1
              cases c <;> simp [renC, A0] at this ⊢
            by_cases hr : i ∈ C.ro
            · obtain ⟨o', o, _, q2, q3, _⟩ := inro i c hi hr
              unfold Heap.dom; rw [q3, in1 i c hi]; simp [hcn]
            · unfold Heap.dom; rw [in1 i c hi, in2 i c hi hr]
          · unfold Heap.dom; rw [out1 j hn, out2 j λ i c hi _ => hn i c hi]
        have hF2 : Nl B2 B2 ι2 noF := ⟨λ _ _ h => h, λ id k m get h => by cases h⟩
        have hpd : ∀ j, ((C.L a).any λ x => Nat.beq (ρ x.1) j) = true -> (CA (BS H' fz) (NL ρ (C.keepW a))).dom j := λ j hj => by
          obtain ⟨⟨i, o⟩, q1, q2⟩ := List.any_eq_true.1 hj
          have q2 : ρ i = j := Nat.eq_of_beq_eq_true q2
          obtain ⟨c, hcm⟩ := Option.isSome_iff_exists.1 (by
            have := e3 (i, o) q1
            exact this.1)
          rw [hd12, <- q2]
          unfold Heap.dom; rw [in1 i c (GY hcm)]
          have := (e4 (i, c) (GY hcm)).1.1
          cases c <;> simp [renC, A0] at this ⊢
        have h3' : Moved B' ι (BS H' fz) w B2 ι2 (CA (BS H' fz) (NL ρ (C.keepW a))) w' := by
          refine h3.weakH hd12 λ j o hj => ?_
          rcases caseJ j with ⟨i, c, hi, rfl⟩ | hn
          · by_cases hr : i ∈ C.ro
            · obtain ⟨o', o2, _, q2, q3, q4⟩ := inro i c hi hr
              rw [q3] at hj
              cases hj
              refine ⟨S1 ρ o2, by rw [in1 i c hi, q2]; rfl, λ x hx => WB (ι := ι2) (ρ := λ j => j) hF2 hpd q4 hx⟩
            · rw [in2 i c hi hr] at hj
              exact ⟨o, by rw [in1 i c hi]; exact hj, λ x hx => hx.mono (λ _ _ h => h) λ i hi => ⟨(hd12 i).2 hi, rfl⟩⟩
          · rw [out2 j λ i c hi _ => hn i c hi] at hj
            exact ⟨o, by rw [out1 j hn]; exact hj, λ x hx => hx.mono (λ _ _ h => h) λ i hi => ⟨(hd12 i).2 hi, rfl⟩⟩
        exact ⟨v, rfl, B2, ι2, hk.trans h3', h4.mono (λ _ _ h => h) λ i hi => ⟨(hd12 i).2 hi, rfl⟩⟩
      · cases hx
    · cases hx
def look : List (FuncId × Spec) -> FuncId -> Option Spec
  | [], _ => none
  | (g, s) :: r, f => if Nat.beq g f then some s else look r f
theorem AJ : GOk P (look []) := λ _ _ h => by cases h
theorem AC {f : FuncId} {t : Spec} {r : List (FuncId × Spec)} (h : AM P f t) (hr : GOk P (look r)) : GOk P (look ((f, t) :: r)) := λ g s hs => by
  simp only [look] at hs
  split at hs
  · rename_i he
    cases hs
    have := Nat.eq_of_beq_eq_true he
    subst this
    exact h
  · exact hr g s hs
end Go.Sym
