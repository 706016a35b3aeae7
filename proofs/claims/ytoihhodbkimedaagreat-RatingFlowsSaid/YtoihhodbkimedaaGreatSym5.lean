/- One operation: all together. -/
import Derived.Test.YtoihhodbkimedaaGreatSym4
import Derived.OrdersIn
import Derived.TacticsIn
import Derived.RangeFuncRecord
set_option linter.unusedVariables false
set_option linter.unusedSimpArgs false
namespace Go.Sym
variable {P : Program} {B B' : KN} {ι ι' : Nat -> Pl} {H H' : Heap} {D : Nat -> Prop} {w w' : World}
def Eff.of (r : Option (AVal × List Prop)) : Option Eff := match r with
  | some (a, p) => some ⟨a, [], p⟩
  | none => none
def Eff.one (r : Option AVal) : Option Eff := match r with
  | some a => some ⟨a, [], []⟩
  | none => none
def CHX : AVal -> Bool
  | .bptr .. | .rptr .. | .d (.eref ..) => true
  | _ => false
def pI (P : Program) (mt : Bool) (r : Nat) (H : Heap) (b : Builtin) (ats : Array TypeId) (args : List AVal) : Option Eff := match b, args with
  | .len, [a] => match ats[0]? with
    | some t => Eff.one (lenA P t a)
    | none => none
  | .append, [s, x] => match ats.toList with
    | [t, t2] => AHC P H r mt t t2 s x
    | _ => none
  | .copy, [d, x] => match ats[0]? with
    | some t => BUV P H t d x
    | none => none
  | .min, l => Eff.one (foldA HZ l)
  | .max, l => Eff.one (foldA EY l)
  | _, _ => none
def BL : AVal -> AVal
  | .opt _ v => v
  | v => v
def RY (c : Prop) : AVal -> List Prop
  | .opt g _ => [c -> g = true]
  | _ => []
theorem IG {c : Prop} {a : AVal} {y : Value} (hc : c) (h : BK (RY c a)) (hv : VRel B ι D a y) : VRel B ι D (BL a) y := by
  cases hv with
  | opt h1 h2 => exact h1 (h hc)
  | d h => exact .d h
  | agg a b => exact .agg a b
  | tup a b => exact .tup a b
  | bptr a => exact .bptr a
  | rptr a => exact .rptr a
  | own a b c => exact .own a b c
  | fn a b c d => exact .fn a b c d
  | mref a => exact .mref a
  | any => exact .any
theorem DY {p : Prop} {r : List Prop} : BK (p :: r) ↔ p /\ BK r := by
  cases r with
  | nil => simp [BK]
  | cons q r => rfl
theorem AV : ∀ {a b : List Prop}, BK (a ++ b) -> BK a /\ BK b
  | [], b, h => ⟨trivial, h⟩
  | p :: a, b, h => by
    have h : BK (p :: (a ++ b)) := h
    rw [DY] at h
    obtain ⟨h1, h2⟩ := AV h.2
    exact ⟨DY.2 ⟨h.1, h1⟩, h2⟩
def opA (P : Program) (mt : Bool) (r : Nat) (ρ : Operand -> AVal) (H : Heap) : Op -> Option Eff
  | .move x | .assign x => some ⟨ρ x, [], []⟩
  | .pick c a b => match ρ c with
    | .d (.v (.bool t)) => some ⟨AOU t (BL (ρ a)) (BL (ρ b)), [], RY (t = true) (ρ a) ++ RY (t = false) (ρ b)⟩
    | _ => none
  | .alloc t => BRI P r t
  | .box _ x => boxA r (ρ x)
  | .build t ps => Eff.of (BSU P t (ps.toList.map λ p => (p.1, ρ p.2)))
  | .buildSlice t len ps => match GO P r t len (ps.toList.map λ p => (p.1, ρ p.2)) with
    | some e => some e
    | none => V3 P r t len (ps.toList.map λ p => (p.1, ρ p.2))
  | .load t a => Eff.of (AOQ P H t (ρ a))
  | .store t a x => Z5 P H t (ρ a) (ρ x)
  | .nilCheck x => if CHX (ρ x) then some ⟨ρ x, [], []⟩ else none
  | .binOp op t x y _ => if BJZ y then (if BOM P op t (ρ x) then some ⟨.d .anyB, [], []⟩ else Eff.of ((BJB P op t (ρ x)).map λ (b, p) => (.bool b, p))) else match ρ x, ρ y with
    | .d (.v a), .d (.v b) => match binV P op t a b with
      | some (v, p) => some ⟨.d (.v v), [], p⟩
      | none => none
    | a, b => match op, eqA P t a b with
      | .eql, some r => some ⟨.bool r, [], []⟩
      | .neq, some r => some ⟨.bool (!r), [], []⟩
      | _, _ => none
  | .unOp op _ x => match ρ x with
    | .d (.v a) => match unV op a with
      | some v => some ⟨.d (.v v), [], []⟩
      | none => none
    | _ => none
  | .convert s d x => Eff.one (AUQ P s d (ρ x))
  | .makeInterface t x => match ρ x with
    | .d a => if P.concrete t then some ⟨.d (.iface t a), [], []⟩ else none
    | _ => none
  | .makeFunc fn first caps => some ⟨.fn fn (first.toList.map ρ) (caps.toList.map ρ), [], []⟩
  | .makeSlice t l c => bN P r t (ρ l) (ρ c)
  | .slice t x lo hi mx => match BRB P t (ρ x) (lo.map ρ) (hi.map ρ) (mx.map ρ) with
    | some (a, p) => some ⟨a, [], p⟩
    | none => match lo, hi, mx with
      | none, none, none => Eff.one (RK P H t (ρ x))
      | lo, hi, mx => YU P H t (ρ x) (lo.map ρ) (hi.map ρ) (mx.map ρ)
  | .makeMap t h => match h with
    | none => AVZ P r t
    | some _ => none
  | .lookup t m ix ok => Eff.of (AIV P H t (ρ m) (ρ ix) ok)
  | .mapUpdate t m k x => So P H t (ρ m) (ρ k) (ρ x)
  | .insert t m k x => So P H t (ρ m) (ρ k) (ρ x)
  | .mapEntry t m k => BFK P H t (ρ m) (ρ k)
  | .entryStore _ m s x => VX H (ρ m) (ρ s) (ρ x)
  | .fieldAddr s x f => Eff.one (lS P s f (ρ x))
  | .field s x f => Eff.one (BPZ P s f (ρ x))
  | .indexAddr t x ix => Eff.of (iF P t (ρ x) (ρ ix))
  | .index t x ix => Eff.of (BQD P t (ρ x) (ρ ix))
  | .extract x i => Eff.one (AKM (ρ x) i)
  | .call c => match c.callee with
    | .builtin b => pI P mt r H b c.argTypes (c.args.toList.map ρ)
    | _ => none
  | _ => none
def Runs (P : Program) (ρ : Operand -> Value) (o : Oper) (w : World) (y : Value) (w' : World) : Prop :=
  (execOp ρ o).run P w = .ok (.value y) w' ∨ ((execOp ρ o).run P w = .ok .skip w' /\ y = undef)
theorem DRel.v_inv {x y : Value} (h : DRel B (.v x) y) : y = x := by cases h; rfl
theorem BH (hH : HRel B ι H w) {a : AVal} {y : Value} (h : VRel B ι H.dom a y) : HQ B ι H w (CN H []) a y w := ⟨B, ι, Moved.refl hH, h⟩
theorem Fz {α β : Type} {f : α -> β} {l : List α} {j : Nat} {y : β} (h : (l.map f)[j]? = some y) : ∃ x, l[j]? = some x /\ f x = y := by
  simpa [List.getElem?_map, Option.map_eq_some_iff] using h
theorem BAZ {mt : Bool} {r : Nat} {ρA : Operand -> AVal} {ρ : Operand -> Value} {o : Oper} {e : Eff} (h : opA P mt r ρA H o.op = some e) (hp : BK e.pre) (hρ : ∀ x, VRel B ι H.dom (ρA x) (ρ x)) (hcv : ∀ v, ρ (.const v) = v) (hr : H r = .none) (hH : HRel B ι H w) :
    ∃ y w', Runs P ρ o w y w' /\ HQ B ι H w (CN H e.upd) e.val y w' := by
  obtain ⟨dst, op, type, pos, after, guard⟩ := o
  simp only at h
  have val : ∀ {s : Sem Value} {y : Value} {w' : World}, s.run P w = .ok y w' -> (do pure (Next.value (<- s)) : Sem Next).run P w = .ok (.value y) w' := λ hs => by simp [hs]
  have maps : ∀ (l : Array Operand), (l.map ρ).size = (l.toList.map ρA).length /\ ∀ (j : Nat) (a : AVal) (y : Value), (l.toList.map ρA)[j]? = some a -> (l.map ρ)[j]? = some y -> VRel B ι H.dom a y := λ l =>
    ⟨by simp, λ j a y ha hy => by
      obtain ⟨x, hx, rfl⟩ := Fz ha
      rw [Array.getElem?_toList] at hx
      simp [hx] at hy
      subst hy; exact hρ x⟩
  have pmaps : ∀ (l : Array (Nat × Operand)), (l.map λ x => (x.1, ρ x.2)).size = (l.toList.map λ p => (p.1, ρA p.2)).length /\ ∀ (j : Nat) (a : Nat × AVal) (y : Nat × Value), (l.toList.map λ p => (p.1, ρA p.2))[j]? = some a -> (l.map λ x => (x.1, ρ x.2))[j]? = some y -> a.1 = y.1 /\ VRel B ι H.dom a.2 y.2 := λ l =>
    ⟨by simp, λ j a y ha hy => by
      obtain ⟨x, hx, rfl⟩ := Fz ha
      rw [Array.getElem?_toList] at hx
      simp [hx] at hy
      subst hy; exact ⟨rfl, hρ x.2⟩⟩
  cases op <;> simp only [opA] at h <;> try (cases h; done)
  case move x => cases h; exact ⟨ρ x, w, .inl rfl, BH hH (hρ x)⟩
  case assign x => cases h; exact ⟨ρ x, w, .inl rfl, BH hH (hρ x)⟩
  case pick c a b =>
    split at h
    · rename_i t hc
      cases h
      have := hρ c
      rw [hc] at this
      have hcv : ρ c = .bool t := this.d_inv.v_inv
      refine ⟨if t then ρ a else ρ b, w, .inl (by simp [execOp, hcv, asBool]), BH hH ?_⟩
      simp only [BLY]
      obtain ⟨hp1, hp2⟩ := AV hp
      cases t
      · exact IG rfl hp2 (hρ b)
      · exact IG rfl hp1 (hρ a)
    · cases h
  case alloc t =>
    obtain ⟨y, w', h1, h2⟩ := BGW h hp hr hH
    exact ⟨y, w', .inl (val h1), h2⟩
  case box t x =>
    obtain ⟨y, w', h1, h2⟩ := BPR (P := P) (t := t) h hr hH (hρ x)
    exact ⟨y, w', .inl (val h1), h2⟩
  case build t ps =>
    unfold Eff.of at h; split at h
    · rename_i a p hb
      cases h
      obtain ⟨y, h1, h2⟩ := BLF hb hp (pmaps ps).1 (pmaps ps).2 w
      exact ⟨y, w, .inl (val h1), BH hH h2⟩
    · cases h
  case buildSlice t len ps =>
    split at h
    · rename_i e0 hb
      cases h
      obtain ⟨y, w', h1, h2⟩ := sH hb hr hH (pmaps ps).1 (pmaps ps).2
      exact ⟨y, w', .inl (val h1), h2⟩
    · obtain ⟨y, w', h1, h2⟩ := AGE h hr hH (pmaps ps).1 (pmaps ps).2
      exact ⟨y, w', .inl (val h1), h2⟩
  case load t a =>
    unfold Eff.of at h; split at h
    · rename_i x p hb
      cases h
      obtain ⟨y, h1, h2⟩ := AFR hb hp (hρ a) hH
      exact ⟨y, w, .inl (val h1), BH hH h2⟩
    · cases h
  case store t a x =>
    obtain ⟨w', h1, h2⟩ := BFJ h hp hH (hρ a) (hρ x)
    refine ⟨undef, w', .inr ⟨by simp [execOp, h1], rfl⟩, ?_⟩
    have : e.val = .d (.v undef) := by
      unfold Z5 at h
      split at h <;> (try (split at h)) <;> (try (split at h)) <;> first | (cases h; rfl) | cases h
    rw [this] at h2 ⊢; exact h2
  case nilCheck x =>
    split at h
    · rename_i hx
      cases h
      refine ⟨ρ x, w, .inl ?_, BH hH (hρ x)⟩
      have hv := hρ x
      generalize ρA x = a at hv hx
      have : ∃ b, ρ x = .pointer (some b) := by
        generalize ρ x = v at hv
        cases hv with
        | bptr => exact ⟨_, rfl⟩
        | rptr => exact ⟨_, rfl⟩
        | d hd => cases hd <;> simp [CHX] at hx; exact ⟨_, rfl⟩
        | _ => simp [CHX] at hx
      obtain ⟨b, hb⟩ := this
      simp [execOp, hb]
    · cases h
  case binOp op t x y yt =>
    split at h
    · rename_i hy
      obtain ⟨n', c', hyv⟩ : ∃ n' c', ρ y = .slice none n' c' := by
        cases y with
        | const v =>
          rw [hcv]
          cases v with
          | slice base n c =>
            cases base with
            | none => exact ⟨n, c, rfl⟩
            | some a => simp [BJZ] at hy
          | _ => simp [BJZ] at hy
        | _ => simp [BJZ] at hy
      split at h
      · rename_i hna
        cases h
        obtain ⟨base, n, c, hx, b, h1⟩ := BHD (n' := n') (c' := c') hna (hρ x) w
        have hg : (eqGuard op t x y (ρ x) (ρ y)).run P w = .ok () w := by
          rw [hx, hyv]
          unfold eqGuard
          split <;> rfl
        refine ⟨.bool b, w, .inl ?_, BH hH (.d .anyB)⟩
        rw [show execOp ρ ⟨dst, .binOp op t x y yt, type, pos, after, guard⟩ = (do pure (.value (<- (do eqGuard op t x y (ρ x) (ρ y); binOp op t (ρ x) (ρ y))))) from rfl]
        rw [hyv] at hg ⊢
        simp only [Sem.run_bind, hg, h1, Result.andThen_ok, Sem.run_pure]
      unfold Eff.of at h; split at h
      · rename_i a p hb
        cases h
        rw [Option.map_eq_some_iff] at hb
        obtain ⟨⟨b, p'⟩, hb, he⟩ := hb
        cases he
        obtain ⟨base, n, c, hx⟩ : ∃ base n c, ρ x = .slice base n c := by
          unfold BJB at hb
          split at hb
          · rename_i hn _; cases hb; obtain ⟨base, n, c, h1, _⟩ := Hd hn hp (hρ x); exact ⟨base, n, c, h1⟩
          · rename_i hn _; cases hb; obtain ⟨base, n, c, h1, _⟩ := Hd hn hp (hρ x); exact ⟨base, n, c, h1⟩
          · cases hb
        have h1 := BFO (n' := n') (c' := c') hb hp (hρ x) w
        have hg : (eqGuard op t x y (ρ x) (ρ y)).run P w = .ok () w := by
          rw [hx, hyv]
          unfold eqGuard
          split <;> rfl
        refine ⟨.bool b, w, .inl ?_, BH hH (.d (.v _))⟩
        rw [show execOp ρ ⟨dst, .binOp op t x y yt, type, pos, after, guard⟩ = (do pure (.value (<- (do eqGuard op t x y (ρ x) (ρ y); binOp op t (ρ x) (ρ y))))) from rfl]
        rw [hyv] at hg ⊢
        simp only [Sem.run_bind, hg, h1, Result.andThen_ok, Sem.run_pure]
      · cases h
    split at h
    · rename_i a b ha hb
      split at h
      · rename_i v p hv
        cases h
        have h1 := hρ x; have h2 := hρ y
        rw [ha] at h1; rw [hb] at h2
        have h1 : ρ x = a := h1.d_inv.v_inv
        have h2 : ρ y = b := h2.d_inv.v_inv
        have := BRD (x := x) (y := y) hv hp w
        exact ⟨v, w, .inl (by rw [show execOp ρ ⟨dst, .binOp op t x y yt, type, pos, after, guard⟩ = (do pure (.value (<- (do eqGuard op t x y (ρ x) (ρ y); binOp op t (ρ x) (ρ y))))) from rfl, h1, h2]; exact val this), BH hH (.d (.v _))⟩
      · cases h
    · split at h
      · rename_i r heq
        cases h
        obtain ⟨⟨a, b, ha, hb⟩, hg, he⟩ := BBT heq (hρ x) (hρ y)
        refine ⟨.bool r, w, .inl ?_, BH hH (.d (.v _))⟩
        rw [ha, hb] at he
        have h3 : binOp .eql t (.agg a) (.agg b) = (do pure (.bool (<- Op.equal t (.agg a) (.agg b)))) := rfl
        simp [execOp, ha, hb, eqGuard, hg, h3, he]
      · rename_i r heq
        cases h
        obtain ⟨⟨a, b, ha, hb⟩, hg, he⟩ := BBT heq (hρ x) (hρ y)
        refine ⟨.bool (!r), w, .inl ?_, BH hH (.d (.v _))⟩
        rw [ha, hb] at he
        have h3 : binOp .neq t (.agg a) (.agg b) = (do pure (.bool (!(<- Op.equal t (.agg a) (.agg b))))) := rfl
        simp [execOp, ha, hb, eqGuard, hg, h3, he]
      · cases h
  case unOp op t x =>
    split at h
    · rename_i a ha
      split at h
      · rename_i v hv
        cases h
        have h1 := hρ x
        rw [ha] at h1
        have h1 : ρ x = a := h1.d_inv.v_inv
        refine ⟨v, w, .inl ?_, BH hH (.d (.v _))⟩
        have := BXR (P := P) hv w
        simp [execOp, h1, this]
      · cases h
    · cases h
  case convert s d x =>
    unfold Eff.one at h; split at h
    · rename_i a ha
      cases h
      obtain ⟨y, h1, h2⟩ := BAM ha (hρ x) w
      exact ⟨y, w, .inl (val h1), BH hH h2⟩
    · cases h
  case makeInterface t x =>
    split at h
    · rename_i d hx
      split at h
      · rename_i hc
        cases h
        have hv := hρ x
        rw [hx] at hv
        exact ⟨_, w, .inl (val (run_makeInterface w t (ρ x) hc)), BH hH (.d (.iface hv.d_inv))⟩
      · cases h
    · cases h
  case makeFunc fn first caps =>
    cases h
    refine ⟨.func fn (first.map ρ) (caps.map ρ), w, .inl (by simp [execOp, Instr.makeFunc]), BH hH (.fn (maps first).1 (maps caps).1 (maps first).2 (maps caps).2)⟩
  case makeSlice t l c =>
    obtain ⟨y, w', h1, h2⟩ := I1 h hp hr hH (hρ l) (hρ c)
    exact ⟨y, w', .inl (val h1), h2⟩
  case slice t x lo hi mx =>
    have opt : ∀ (q : Option Operand), (∀ a, q.map ρA = some a -> ∃ y, q.map ρ = some y /\ VRel B ι H.dom a y) /\ (q.map ρA = none -> q.map ρ = none) := λ q => by
      cases q with
      | none => exact ⟨λ _ h => (by cases h), λ _ => rfl⟩
      | some x => exact ⟨λ a h => (by cases h; exact ⟨_, rfl, hρ x⟩), λ h => (by cases h)⟩
    split at h
    · rename_i a p hb
      cases h
      obtain ⟨y, h1, h2⟩ := BJE hb hp (hρ x) (opt lo).1 (opt lo).2 (opt hi).1 (opt hi).2 (opt mx).1 (opt mx).2 w
      exact ⟨y, w, .inl (val h1), BH hH h2⟩
    · split at h
      · unfold Eff.one at h; split at h
        · rename_i a hb
          cases h
          obtain ⟨y, h1, h2⟩ := AGD hb (hρ x) hH
          exact ⟨y, w, .inl (val h1), BH hH h2⟩
        · cases h
      · obtain ⟨y, h1, h2⟩ := AOE h hp (hρ x) hH (opt lo).1 (opt lo).2 (opt hi).1 (opt mx).1
        exact ⟨y, w, .inl (val h1), h2⟩
  case makeMap t r' =>
    split at h
    · obtain ⟨y, w', h1, h2⟩ := AJZ h hr hH
      exact ⟨y, w', .inl (val h1), h2⟩
    · cases h
  case lookup t m ix ok =>
    unfold Eff.of at h; split at h
    · rename_i a p hb
      cases h
      obtain ⟨y, h1, h2⟩ := BAR hb hp (hρ m) (hρ ix) hH
      exact ⟨y, w, .inl (val h1), BH hH h2⟩
    · cases h
  case mapUpdate t m k x =>
    obtain ⟨w', h1, h2⟩ := Yy h hH (hρ m) (hρ k) (hρ x)
    exact ⟨undef, w', .inr ⟨by simp [execOp, h1], rfl⟩, h2⟩
  case insert t m k x =>
    obtain ⟨w', h1, h2⟩ := Yy h hH (hρ m) (hρ k) (hρ x)
    exact ⟨undef, w', .inr ⟨by simp [execOp, h1], rfl⟩, h2⟩
  case mapEntry t m k =>
    obtain ⟨y, w', h1, h2⟩ := BFR h hp hH (hρ m) (hρ k)
    exact ⟨y, w', .inl (val h1), h2⟩
  case entryStore t m s x =>
    obtain ⟨w', h1, h2⟩ := pE (P := P) (t := t) h hp hH (hρ m) (hρ s) (hρ x)
    exact ⟨undef, w', .inr ⟨by simp [execOp, h1], rfl⟩, h2⟩
  case fieldAddr s x f =>
    unfold Eff.one at h; split at h
    · rename_i a ha
      cases h
      obtain ⟨y, h1, h2⟩ := Z8 (w := w) ha (hρ x)
      exact ⟨y, w, .inl (val h1), BH hH h2⟩
    · cases h
  case field s x f =>
    unfold Eff.one at h; split at h
    · rename_i a ha
      cases h
      obtain ⟨y, h1, h2⟩ := BFN ha (hρ x) w
      exact ⟨y, w, .inl (val h1), BH hH h2⟩
    · cases h
  case indexAddr t x ix =>
    unfold Eff.of at h; split at h
    · rename_i a p hb
      cases h
      obtain ⟨y, h1, h2⟩ := L2 hb hp (hρ x) (hρ ix) w
      exact ⟨y, w, .inl (val h1), BH hH h2⟩
    · cases h
  case index t x ix =>
    unfold Eff.of at h; split at h
    · rename_i a p hb
      cases h
      obtain ⟨y, h1, h2⟩ := BHC hb hp (hρ x) (hρ ix) w
      exact ⟨y, w, .inl (val h1), BH hH h2⟩
    · cases h
  case extract x i =>
    unfold Eff.one at h; split at h
    · rename_i a ha
      cases h
      obtain ⟨y, h1, h2⟩ := AYP ha (hρ x) w
      exact ⟨y, w, .inl (val h1), BH hH h2⟩
    · cases h
  case call c =>
    split at h
    · rename_i b hb
      obtain ⟨callee, args, ats⟩ := c
      simp only at hb h
      subst hb
      have hex : ∀ {s : Sem Value} {y : Value} {w' : World}, builtin b ats type (args.map λ | .const _ => true | _ => false) (args.map ρ) = (do pure (.value (<- s))) -> s.run P w = .ok y w' ->
          Runs P ρ ⟨dst, .call ⟨.builtin b, args, ats⟩, type, pos, after, guard⟩ w y w' := λ h1 h2 => .inl (by
        rw [show execOp ρ ⟨dst, .call ⟨.builtin b, args, ats⟩, type, pos, after, guard⟩ = builtin b ats type (args.map λ | .const _ => true | _ => false) (args.map ρ) from rfl, h1]; exact val h2)
      have hm := maps args
      unfold pI at h
      split at h
      · rename_i a hl
        split at h
        · rename_i t ht
          unfold Eff.one at h; split at h
          · rename_i q hq
            cases h
            rw [hl] at hm
            have hsz : (args.map ρ).size = 1 := by simpa using hm.1
            obtain ⟨v, hv⟩ : ∃ v, args.map ρ = #[v] := by
              generalize args.map ρ = l at hsz
              match l, hsz with
              | ⟨[v]⟩, _ => exact ⟨v, rfl⟩
            have hva := hm.2 0 a v rfl (by rw [hv]; rfl)
            obtain ⟨y, h1, h2⟩ := BOR (P := P) (ty := type) hq hva ht w
            refine ⟨y, w, hex (s := Builtin.len_ ats type (args.map ρ)) rfl (by rw [hv]; exact h1), BH hH h2⟩
          · cases h
        · cases h
      · rename_i s x hl
        split at h
        · rename_i t t2 ht
          rw [hl] at hm
          have hsz : (args.map ρ).size = 2 := by simpa using hm.1
          obtain ⟨v, u, hv⟩ : ∃ v u, args.map ρ = #[v, u] := by
            generalize args.map ρ = l at hsz
            match l, hsz with
            | ⟨[v, u]⟩, _ => exact ⟨v, u, rfl⟩
          have hva := hm.2 0 s v rfl (by rw [hv]; rfl)
          have hvb := hm.2 1 x u rfl (by rw [hv]; rfl)
          have hats : ats = #[t, t2] := by
            have := congrArg List.toArray ht
            simpa using this
          obtain ⟨y, w', h1, h2⟩ := BAS (ty := type) h hp hr hH hva hvb
          exact ⟨y, w', hex (s := Builtin.append_ ats type (args.map ρ)) rfl (by rw [hv, hats]; exact h1), h2⟩
        · cases h
      · rename_i d x hl
        split at h
        · rename_i t ht
          rw [hl] at hm
          have hsz : (args.map ρ).size = 2 := by simpa using hm.1
          obtain ⟨v, u, hv⟩ : ∃ v u, args.map ρ = #[v, u] := by
            generalize args.map ρ = l at hsz
            match l, hsz with
            | ⟨[v, u]⟩, _ => exact ⟨v, u, rfl⟩
          have hva := hm.2 0 d v rfl (by rw [hv]; rfl)
          have hvb := hm.2 1 x u rfl (by rw [hv]; rfl)
          obtain ⟨y, w', h1, h2⟩ := BMD (ty := type) h hp ht hva hvb hH
          exact ⟨y, w', hex (s := Builtin.copy_ ats type (args.map ρ)) rfl (by rw [hv]; exact h1), h2⟩
        · cases h
      · unfold Eff.one at h; split at h
        · rename_i q hq
          cases h
          obtain ⟨y, h1, h2⟩ := AGG (P := P) (ats := ats) (ty := type) hq hm.1 hm.2 w
          exact ⟨y, w, hex (s := Builtin.min_ ats type (args.map ρ)) rfl h1, BH hH h2⟩
        · cases h
      · unfold Eff.one at h; split at h
        · rename_i q hq
          cases h
          obtain ⟨y, h1, h2⟩ := AGF (P := P) (ats := ats) (ty := type) hq hm.1 hm.2 w
          exact ⟨y, w, hex (s := Builtin.max_ ats type (args.map ρ)) rfl h1, BH hH h2⟩
        · cases h
      · cases h
    · cases h
end Go.Sym

namespace Go.Sym
variable {P : Program} {B B' : KN} {ι ι' : Nat -> Pl} {H H' : Heap} {D : Nat -> Prop} {w w' : World}
structure Ctx where
  B0 : KN
  ι0 : Nat -> Pl
  H0 : Heap
  w0 : World
  n : Nat
  rd : Option Nat
  mks : Bool
def xR (rd : Option Nat) : Fence := { Fence.wide with round := rd }
structure Quiet (b : Nat) (x : Obj) (ι : Nat -> Pl) (H : Heap) (w : World) : Prop where
  here : w.heap[b]? = some x
  sep : ∀ i o, H i = .live o -> (ι i).b ≠ b
theorem Quiet.moved {b : Nat} {x : Obj} (h : Quiet b x ι H w) (m : Moved B ι H w B' ι' H' w') : Quiet b x ι' H' w' := by
  have hlt : b < w.heap.size := (Array.getElem?_eq_some_iff.1 h.here).1
  refine ⟨by rw [m.frame b hlt h.sep]; exact h.here, λ i o hi => ?_⟩
  rcases m.own i o hi with ⟨i0, o0, h1, h2⟩ | h1
  · rw [<- h2]; exact h.sep _ _ h1
  · omega
theorem HRel.put {b : Nat} {x : Obj} (h : HRel B ι H w) (hq : Quiet b x ι H w) (hx : ∀ c e fr, x ≠ .cells c e fr) (y : Obj) : HRel B ι H (w.putObj b y) := by
  have oth : ∀ k, k ≠ b -> (w.putObj b y).heap[k]? = w.heap[k]? := λ k hk => World.putObj_heap_other hk
  refine ⟨λ i o hi => ?_, h.inj, h.sep, λ k c hk => ?_⟩
  · rw [oth _ (hq.sep i o hi)]; exact h.obj i o hi
  · obtain ⟨e, fr, h1⟩ := h.imm k c hk
    refine ⟨e, fr, ?_⟩
    rw [oth]; exact h1
    intro he; subst he
    rw [hq.here] at h1; cases h1; exact hx _ _ _ rfl
theorem Moved.put {b : Nat} {x : Obj} (m : Moved B ι H w B' ι' H' w') (hq : Quiet b x ι' H' w') (hx : ∀ c e fr, x ≠ .cells c e fr) (hb : w.heap.size <= b) (y : Obj) : Moved B ι H w B' ι' H' (w'.putObj b y) :=
  ⟨m.bm, m.bn, m.im, m.heap.put hq hx y, m.own, λ k hk hno => by rw [World.putObj_heap_other (by omega)]; exact m.frame k hk hno, by rw [World.putObj_size]; exact m.size, ⟨m.calm.os, m.calm.tape, m.calm.output⟩⟩
theorem Quiet.put_other {b d : Nat} {x y : Obj} (h : Quiet b x ι H w) (hd : d ≠ b) : Quiet b x ι H (w.putObj d y) := ⟨by rw [World.putObj_heap_other (Ne.symm hd)]; exact h.here, h.sep⟩
theorem Quiet.put_same {b : Nat} {x : Obj} (h : Quiet b x ι H w) (y : Obj) : Quiet b y ι H (w.putObj b y) := ⟨World.putObj_heap_same (Array.getElem?_eq_some_iff.1 h.here).1, h.sep⟩
def BIY (Ds : List Nat) : List Deferred := Ds.map λ D => { target := .collected D, args := #[] }
structure Rel (c : Ctx) (B : KN) (ι : Nat -> Pl) (σ : AState) (a : Act) (w : World) : Prop where
  slots : ∀ t, VRel B ι σ.H.dom (σ.sl t) (a.tmps.getD t undef)
  size : a.tmps.size = c.n
  defers : ∃ Ds : List Nat, a.defers = BIY Ds /\ (c.mks = false -> Ds = []) /\ Ds.Nodup /\ ∀ D ∈ Ds, c.w0.heap.size <= D /\ Quiet D (.deferred (some [])) ι σ.H w
  mv : Moved c.B0 c.ι0 c.H0 c.w0 B ι σ.H w
def AState.app (σ : AState) (dst : Option Tmp) (v : AVal) (u : List (Nat × HCell)) : AState := ⟨WB σ.sl dst v, CN σ.H u⟩
def BFT (P : Program) (f : FuncId) : Prop := ∀ (args : Array Value) (w : World), (callFunc f args).run P w = .ok (.enter f args) w
theorem BBI {f : FuncId} {fn : Func} {c : Code} (hf : P.funcs[f]? = some fn) (hname : (fn.name == "runtime.NumGoroutine") = false) (hb : fn.body = some c) : BFT P f := by
  intro args w
  have h1 : fn.name ≠ "runtime.NumGoroutine" := by simpa using hname
  simp [callFunc, hf, h1, hb, mark]
def OW (B : KN) (ι : Nat -> Pl) (D : Nat -> Prop) (as : List AVal) (vs : Array Value) : Prop :=
  vs.size = as.length /\ ∀ (j : Nat) (a : AVal) (y : Value), as[j]? = some a -> vs[j]? = some y -> VRel B ι D a y
def CQL (P : Program) (g : FuncId) (as : List AVal) (H : Heap) (val : AVal) (upd : List (Nat × HCell)) : Prop :=
  BFT P g /\ ∀ (B : KN) (ι : Nat -> Pl) (w : World) (vs : Array Value), OW B ι H.dom as vs -> HRel B ι H w ->
    Calls P g vs w λ e w' => ∃ v, e = .returned v /\ HQ B ι H w (CN H upd) val v w'
def BME (P : Program) (g : FuncId) (as : List AVal) (r : Nat) (cells : List (Nat × HCell)) (val : AVal) (upd : List (Nat × HCell)) : Prop :=
  ∀ H : Heap, (∀ p ∈ cells, H p.1 = p.2) -> (∀ i, r <= i -> i < r + 16 -> H i = .none) -> CQL P g as H val upd
def FQ : AVal -> List Nat
  | .bptr id _ | .rptr id _ _ _ | .own id _ _ _ | .mref id => [id]
  | _ => []
def BEB : Op -> Bool
  | .indexAddr .. | .fieldAddr .. | .nilCheck .. | .move .. | .assign .. | .extract .. | .field .. | .index .. => true
  | .call ⟨.builtin .len, _, _⟩ => true
  | _ => false
def TF (ρ : Operand -> AVal) (op : Op) : List Nat := bif BEB op then [] else op.operands.toList.flatMap λ x => FQ (ρ x)
theorem T2 {mt : Bool} {r : Nat} {ρ ρ' : Operand -> AVal} {H H' : Heap} (op : Op) (h : ∀ x ∈ op.operands, ρ x = ρ' x) (hH : ∀ id ∈ TF ρ op, H id = H' id) : opA P mt r ρ H op = opA P mt r ρ' H' op := by
  have foot : BEB op = false -> ∀ x ∈ op.operands, ∀ id ∈ FQ (ρ x), H id = H' id := λ hn x hx id hid => hH id (by unfold TF; rw [hn]; exact List.mem_flatMap.2 ⟨x, by simpa using hx, hid⟩)
  have rd : ∀ (p : AVal), (∀ id ∈ FQ p, H id = H' id) -> Lm H p = Lm H' p := by
    intro p hp
    cases p with
    | bptr id c => simp only [Lm, hp id (by simp [FQ])]
    | rptr id k i c => simp only [Lm, hp id (by simp [FQ])]
    | d x => cases x <;> rfl
    | _ => rfl
  have src : ∀ (p : AVal), (∀ id ∈ FQ p, H id = H' id) -> srcA H p = srcA H' p := by
    intro p hp
    cases p with
    | own id k j m => simp only [srcA, hp id (by simp [FQ])]
    | d x => cases x <;> rfl
    | _ => rfl
  have dst : ∀ (p : AVal), (∀ id ∈ FQ p, H id = H' id) -> dstA H p = dstA H' p := by
    intro p hp
    cases p with
    | own id k j m => cases j <;> simp only [dstA, hp id (by simp [FQ])]
    | d x => cases x with
      | list k n g e => cases e <;> rfl
      | _ => rfl
    | _ => rfl
  have mp : ∀ (p : AVal), (∀ id ∈ FQ p, H id = H' id) -> Za H p = Za H' p := by
    intro p hp
    cases p with
    | mref id => simp only [Za, hp id (by simp [FQ])]
    | _ => rfl
  have pairs : ∀ ps : Array (Nat × Operand), (∀ x ∈ (ps.toList.map (·.2)), ρ x = ρ' x) -> (ps.toList.map λ p => (p.1, ρ p.2)) = (ps.toList.map λ p => (p.1, ρ' p.2)) := λ ps hp =>
    List.map_congr_left λ p hm => by rw [hp p.2 (List.mem_map.2 ⟨p, hm, rfl⟩)]
  have opt : ∀ q : Option Operand, (∀ x ∈ q.toArray, ρ x = ρ' x) -> q.map ρ = q.map ρ' := λ q hq => by
    cases q with
    | none => rfl
    | some x => simp [hq x (by simp)]
  cases op <;> simp only [Op.operands, BEB, eq_self, true_implies, reduceCtorEq, false_implies] at h foot <;> simp only [opA]
  case move x => rw [h x (by simp)]
  case assign x => rw [h x (by simp)]
  case pick c a b => rw [h c (by simp), h a (by simp), h b (by simp)]
  case box t x => rw [h x (by simp)]
  case build t ps => rw [pairs ps λ x hx => h x (by simpa using hx)]
  case buildSlice t n ps => rw [pairs ps λ x hx => h x (by simpa using hx)]
  case load t a =>
    have hr := rd (ρ a) (foot a (by simp))
    have he := h a (by simp)
    have : AOQ P H t (ρ a) = AOQ P H' t (ρ a) := by
      unfold AOQ; rw [hr]
      split
      · generalize hq : ρ a = p at *
        split
        · rename_i id k; rw [foot a (by simp) id (by rw [hq]; simp [FQ])]
        · rfl
      · rfl
      · rfl
    rw [this, he]
  case store t a x =>
    have he := h a (by simp)
    have hx := h x (by simp)
    have hf := foot a (by simp)
    rw [<- he, <- hx]
    generalize ρ a = p at hf
    cases p with
    | bptr id c =>
      have e := hf id (by simp [FQ])
      unfold Z5
      generalize P.underlying t = u
      generalize (P.info? t).map (·.size) = s
      cases u with
      | none => rfl
      | some d => cases s with
        | none => rfl
        | some n => simp only [e]
    | rptr id k i c =>
      have e := hf id (by simp [FQ])
      unfold Z5
      generalize P.underlying t = u
      generalize (P.info? t).map (·.size) = s
      cases u with
      | none => cases i <;> cases c <;> rfl
      | some d => cases s with
        | none => cases d <;> cases i <;> cases c <;> rfl
        | some n => cases d <;> cases i <;> cases c <;> simp only [e]
    | _ => rfl
  case nilCheck x => rw [h x (by simp)]
  case lookup t m ix ok =>
    rw [h ix (by simp), <- h m (by simp)]
    have := mp (ρ m) (foot m (by simp))
    unfold AIV; rw [this]
  case mapUpdate t m k x =>
    rw [h k (by simp), h x (by simp), <- h m (by simp)]
    have := mp (ρ m) (foot m (by simp))
    unfold So; rw [this]
  case insert t m k x =>
    rw [h k (by simp), h x (by simp), <- h m (by simp)]
    have := mp (ρ m) (foot m (by simp))
    unfold So; rw [this]
  case mapEntry t m k =>
    rw [h k (by simp), <- h m (by simp)]
    have := mp (ρ m) (foot m (by simp))
    unfold BFK; rw [this]
  case entryStore t m s x =>
    rw [h s (by simp), h x (by simp), <- h m (by simp)]
    have := mp (ρ m) (foot m (by simp))
    unfold VX; rw [this]
  case binOp op t x y yt => rw [h x (by simp), h y (by simp)]
  case unOp op t x => rw [h x (by simp)]
  case convert s d x => rw [h x (by simp)]
  case makeInterface t x => rw [h x (by simp)]
  case makeFunc fn first caps =>
    rw [List.map_congr_left (l := first.toList) λ x hx => h x (by simp at hx; simp [hx]), List.map_congr_left (l := caps.toList) λ x hx => h x (by simp at hx; simp [hx])]
  case makeSlice t l c => rw [h l (by simp), h c (by simp)]
  case slice t x lo hi mx =>
    have e1 := opt lo λ y hy => h y (by simp at hy; simp [hy])
    have e2 := opt hi λ y hy => h y (by simp at hy; simp [hy])
    have e3 := opt mx λ y hy => h y (by simp at hy; simp [hy])
    have hf := foot x (by simp)
    have a1 : RK P H t (ρ x) = RK P H' t (ρ x) := by
      generalize ρ x = p at hf
      unfold RK
      split
      · rename_i m e id k hu; rw [hf id (by simp [FQ])]
      · rfl
    have a2 : ∀ l q m, YU P H t (ρ x) l q m = YU P H' t (ρ x) l q m := λ l q m => by
      generalize ρ x = p at hf
      unfold YU
      split
      · rename_i id k n km mm hu; rw [hf id (by simp [FQ])]
      · rfl
    have hx := h x (by simp)
    rw [hx] at a1 a2
    rw [hx, e1, e2, e3]
    split
    · rfl
    · split
      · rw [a1]
      · rw [a2, e1, e2, e3]
  case fieldAddr s x f => rw [h x (by simp)]
  case field s x f => rw [h x (by simp)]
  case indexAddr t x ix => rw [h x (by simp), h ix (by simp)]
  case index t x ix => rw [h x (by simp), h ix (by simp)]
  case extract x i => rw [h x (by simp)]
  case call c =>
    obtain ⟨callee, args, ats⟩ := c
    cases callee with
    | builtin b =>
      simp only [Call.operands] at h foot
      simp only
      have hm : args.toList.map ρ = args.toList.map ρ' := List.map_congr_left λ x hx => h x (by simpa using hx)
      rw [<- hm]
      by_cases hb : b = .len
      · subst hb; unfold pI; split <;> first | rfl | contradiction
      replace foot := foot (by cases b <;> first | rfl | exact absurd rfl hb)
      unfold pI
      split
      · rfl
      · rename_i s x hl
        split
        · rename_i t t2 ht
          have ms : ∀ z, z ∈ args.toList.map ρ -> ∀ id ∈ FQ z, H id = H' id := λ z hz id hid => by
            obtain ⟨y, hy, rfl⟩ := List.mem_map.1 hz
            exact foot y (by simpa using hy) id hid
          rw [hl] at ms
          unfold AHC
          rw [dst s (ms s (by simp)), src x (ms x (by simp))]
        · rfl
      · rename_i d x hl
        split
        · have ms : ∀ z, z ∈ args.toList.map ρ -> ∀ id ∈ FQ z, H id = H' id := λ z hz id hid => by
            obtain ⟨y, hy, rfl⟩ := List.mem_map.1 hz
            exact foot y (by simpa using hy) id hid
          rw [hl] at ms
          have hd := ms d (by simp)
          unfold BUV
          rw [src x (ms x (by simp))]
          split
          · rename_i e id k n k2 m DT p2 hu hs; rw [hd id (by simp [FQ])]
          · rfl
        · rfl
      · rfl
      · rfl
      · rfl
    | _ => rfl
def DB (ops : Array Oper) (sl : Nat -> AVal) (j : Nat) (want : Bool) : Option Bool := match (ops[j]?).bind (·.dst) with
  | some t => match want, sl t with
    | true, .d (.v (.bool b)) => some b
    | false, .d (.v (.bool b)) => some (!b)
    | true, .opt g (.d (.v (.bool b))) => some (g && b)
    | false, .opt g (.d (.v (.bool b))) => some (g && !b)
    | _, _ => none
  | none => none
theorem AUC {ops : Array Oper} {a : Act} {j : Nat} {t : Tmp} (ht : (ops[j]?).bind (·.dst) = some t) : (∀ b, a.tmps.getD t undef = .bool b -> yielded ops a.tmps j = some b) /\ (a.tmps.getD t undef = .tuple #[] -> yielded ops a.tmps j = none) := by
  have hget : a.tmps.getD t undef = (a.tmps[t]?).getD undef := by simp
  simp only [yielded, ht, Option.bind_some]
  refine ⟨λ b h => ?_, λ h => ?_⟩ <;> rw [hget] at h <;> cases hq : a.tmps[t]? with
    | none => rw [hq] at h <;> first | rfl | cases h
    | some x => rw [hq] at h; simp at h; subst h; rfl
theorem uU {ops : Array Oper} {sl : Nat -> AVal} {o : Oper} {j : Nat} {want g : Bool} {a : Act} (hg : o.guard = some (j, want)) (h : DB ops sl j want = some g) (hs : ∀ t, VRel B ι D (sl t) (a.tmps.getD t undef)) :
    Region.wanted o (yielded ops a.tmps) = g := by
  unfold DB at h
  simp only [Region.wanted, hg]
  split at h
  · rename_i t ht
    have hv := hs t
    obtain ⟨y1, y2⟩ := AUC (a := a) ht
    split at h
    · rename_i b hb
      cases h
      rw [hb] at hv
      rw [y1 _ hv.d_inv.v_inv]
      cases g <;> rfl
    · rename_i b hb
      cases h
      rw [hb] at hv
      rw [y1 _ hv.d_inv.v_inv]
      cases b <;> rfl
    · rename_i g' b hb
      cases h
      rw [hb] at hv
      cases hv with
      | opt h1 h2 =>
        cases g' with
        | true => rw [y1 b (h1 rfl).d_inv.v_inv]; cases b <;> rfl
        | false => rw [y2 (h2 rfl)]; rfl
    · rename_i g' b hb
      cases h
      rw [hb] at hv
      cases hv with
      | opt h1 h2 =>
        cases g' with
        | true => rw [y1 b (h1 rfl).d_inv.v_inv]; cases b <;> rfl
        | false => rw [y2 (h2 rfl)]; rfl
    · cases h
  · cases h
def Mq (g : Bool) : List Prop -> List Prop
  | [] => []
  | l => [g = true -> BK l]
theorem MI {g : Bool} {l : List Prop} (h : BK (Mq g l)) (hg : g = true) : BK l := by
  cases l with
  | nil => trivial
  | cons p r => exact h hg
def JE (ρ : Operand -> AVal) (l : List Operand) : List Prop := l.flatMap λ x => RY True (ρ x)
def gopA (P : Program) (r : Nat) (ρ : Operand -> AVal) (H : Heap) (g : Bool) (op : Op) : Option (AVal × List Prop) := match op with
  | .pick c a b => match BL (ρ c) with
    | .d (.v (.bool t)) => some (AOU t (BL (ρ a)) (BL (ρ b)), Mq g (RY True (ρ c) ++ (RY (t = true) (ρ a) ++ RY (t = false) (ρ b))))
    | _ => none
  | .buildSlice t len ps => match GO P r t len (ps.toList.map λ p => (p.1, BL (ρ p.2))) with
    | some ⟨_, [(_, .live (.row k n get))], _⟩ => some (.d (.list k n get true), Mq g (JE ρ (Op.buildSlice t len ps).operands.toList))
    | _ => none
  | op => match opA P false r (λ x => BL (ρ x)) H op with
    | some ⟨v, [], p⟩ => some (v, Mq g (JE ρ op.operands.toList ++ p))
    | _ => none
theorem arr1 (u : Value) (z : Array Value) : (#[u] ++ z)[0]? = some u /\ (#[u] ++ z).extract 1 (#[u] ++ z).size = z := by
  constructor
  · rw [Array.getElem?_append_left (by simp)]; rfl
  · obtain ⟨z⟩ := z
    simp
def AHM (P : Program) (t : TypeId) (name : String) : Option FuncId := match P.info? t, P.underlying t with
  | some i, some (.struct _) => match i.methods.find? (·.name == name) with
    | some m => match m.path.toList, m.func with
      | [], some (f, false) => some f
      | _, _ => none
    | none => none
  | _, _ => none
theorem BOS {t : TypeId} {name : String} {f : FuncId} (h : AHM P t name = some f) (n : Nat) (v : Value) (w : World) : (method (n + 1) t v name).run P w = .ok (f, v) w := by
  unfold AHM at h
  split at h
  · rename_i i fs hi hu
    split at h
    · rename_i m hm
      split at h
      · rename_i fn hp hf
        cases h
        simp [method, PG hi, hm, hp, follow, hf, receiverAt, run_underlying hu, Place.get]
      · cases h
    · cases h
  · cases h
inductive StepO (P : Program) (mt : Bool) (ops : Array Oper) (r : Nat) (σ : AState) (o : Oper) : AVal -> List (Nat × HCell) -> List Nat -> Prop
  | op {e : Eff} (hg : o.guard = none) (h : opA P mt r (AO σ.sl) σ.H o.op = some e) (hp : BK e.pre) (hr : σ.H r = .none) : StepO P mt ops r σ o e.val e.upd (r :: TF (AO σ.sl) o.op)
  | gop {j : Nat} {want g : Bool} {v : AVal} {p : List Prop} (hg : o.guard = some (j, want)) (hw : DB ops σ.sl j want = some g) (h : gopA P r (AO σ.sl) σ.H g o.op = some (v, p)) (hp : BK p) (hr : σ.H r = .none) :
      StepO P mt ops r σ o (.opt g v) [] (r :: TF (λ x => BL (AO σ.sl x)) o.op)
  | call {f : Operand} {args : Array Operand} {ats : Array TypeId} {g : FuncId} {first caps : List AVal} {cells upd : List (Nat × HCell)} {val : AVal} (hg : o.guard = none)
      (ho : o.op = .call ⟨.value f, args, ats⟩) (hf : AO σ.sl f = .fn (.func g) first caps) (hc : BME P g (first ++ args.toList.map (AO σ.sl) ++ caps) r cells val upd)
      (hcells : ∀ p ∈ cells, σ.H p.1 = p.2) (hr : ∀ i, r <= i -> i < r + 16 -> σ.H i = .none) : StepO P mt ops r σ o val upd (cells.map (·.1) ++ (List.range 16).map (r + ·))
  | inv {x : Operand} {m : String} {args : Array Operand} {ats : Array TypeId} {t : TypeId} {d : DVal} {g : FuncId} {cells upd : List (Nat × HCell)} {val : AVal} (hg : o.guard = none)
      (ho : o.op = .call ⟨.invoke x m, args, ats⟩) (hf : AO σ.sl x = .d (.iface t d)) (hm : AHM P t m = some g) (hc : BME P g (.d d :: args.toList.map (AO σ.sl)) r cells val upd)
      (hcells : ∀ p ∈ cells, σ.H p.1 = p.2) (hr : ∀ i, r <= i -> i < r + 16 -> σ.H i = .none) : StepO P mt ops r σ o val upd (cells.map (·.1) ++ (List.range 16).map (r + ·))
  | gcall {j : Nat} {want gd : Bool} {f : Operand} {args : Array Operand} {ats : Array TypeId} {g : FuncId} {first caps : List AVal} {cells : List (Nat × HCell)} {val : AVal} (hg : o.guard = some (j, want)) (hw : DB ops σ.sl j want = some gd)
      (ho : o.op = .call ⟨.value f, args, ats⟩) (hf : BL (AO σ.sl f) = .fn (.func g) first caps) (htags : gd = true -> BK (JE (AO σ.sl) o.op.operands.toList))
      (hc : gd = true -> BME P g (first ++ args.toList.map (λ x => BL (AO σ.sl x)) ++ caps) r cells val [])
      (hcells : ∀ p ∈ cells, σ.H p.1 = p.2) (hr : ∀ i, r <= i -> i < r + 16 -> σ.H i = .none) : StepO P mt ops r σ o (.opt gd val) [] (cells.map (·.1) ++ (List.range 16).map (r + ·))
theorem Rel.app {c : Ctx} {σ : AState} {a : Act} {dst : Option Tmp} {v : AVal} {y : Value} {u : List (Nat × HCell)} (h : Rel c B ι σ a w) (hd : HQ B ι σ.H w (CN σ.H u) v y w') (hdst : ∀ d, dst = some d -> d < c.n) :
    ∃ B' ι', Rel c B' ι' (σ.app dst v u) (a.put dst y) w' := by
  obtain ⟨B', ι', hm, hv⟩ := hd
  refine ⟨B', ι', ⟨λ t => ?_, ?_, ?_, h.mv.trans hm⟩⟩
  · exact Vq (λ t => hm.vrel (h.slots t)) (λ d hd => by rw [h.size]; exact hdst d hd) hv t
  · cases dst <;> simp [Act.put, h.size]
  · obtain ⟨Ds, h1, h0, h2, h3⟩ := h.defers
    exact ⟨Ds, by cases dst <;> simpa [Act.put] using h1, h0, h2, λ D hD => ⟨(h3 D hD).1, (h3 D hD).2.moved hm⟩⟩
theorem Vn {ρA : Operand -> AVal} : ∀ {l : List Operand}, BK (JE ρA l) -> ∀ x, x ∈ l -> BK (RY True (ρA x))
  | [], _, x, hx => by cases hx
  | y :: l, h, x, hx => by
    have h : BK (RY True (ρA y) ++ JE ρA l) := h
    obtain ⟨h1, h2⟩ := AV h
    rcases List.mem_cons.1 hx with rfl | hx
    · exact h1
    · exact Vn h2 x hx
theorem oQ {ρ ρ' : Operand -> AVal} (op : Op) (h : ∀ x ∈ op.operands, ρ x = ρ' x) : TF ρ op = TF ρ' op := by
  unfold TF
  cases BEB op
  case true => rfl
  show op.operands.toList.flatMap _ = op.operands.toList.flatMap _
  have : ∀ l : List Operand, (∀ x ∈ l, ρ x = ρ' x) -> (l.flatMap λ x => FQ (ρ x)) = l.flatMap λ x => FQ (ρ' x) := by
    intro l hl
    induction l with
    | nil => rfl
    | cons x l ih => rw [List.flatMap_cons, List.flatMap_cons, hl x (by simp), ih λ y hy => hl y (by simp [hy])]
  exact this _ λ x hx => h x (by simpa using hx)
open Classical in
theorem BPT {r : Nat} {ρA : Operand -> AVal} {ρ : Operand -> Value} {o : Oper} {v : AVal} {p : List Prop} (h : gopA P r ρA H true o.op = some (v, p)) (hp : BK p) (hρ : ∀ x, VRel B ι H.dom (ρA x) (ρ x)) (hcv : ∀ v, ρ (.const v) = v) (hr : H r = .none) (hH : HRel B ι H w) :
    ∃ y w', Runs P ρ o w y w' /\ HQ B ι H w H v y w' := by
  have gen : ∀ {e : Eff}, opA P false r (λ x => BL (ρA x)) H o.op = some e -> e.upd = [] -> BK e.pre -> BK (JE ρA o.op.operands.toList) -> ∃ y w', Runs P ρ o w y w' /\ HQ B ι H w H e.val y w' := by
    intro e he hu hpe ht
    let ρ' : Operand -> AVal := λ x => if x ∈ o.op.operands then BL (ρA x) else .any
    have hc : opA P false r ρ' H o.op = some e := by
      rw [<- he]
      exact T2 o.op (λ x hx => by show (if _ then _ else _) = _; rw [if_pos hx]) (λ _ _ => rfl)
    obtain ⟨y, w', h1, h2⟩ := BAZ (ρ := ρ) hc hpe (λ x => by
      show VRel B ι H.dom (if _ then _ else _) _
      split
      · rename_i hx; exact IG trivial (Vn ht x (by simpa using hx)) (hρ x)
      · exact .any) hcv hr hH
    rw [hu] at h2
    exact ⟨y, w', h1, h2⟩
  unfold gopA at h
  split at h
  · rename_i c a b ho
    split at h
    · rename_i t hc
      cases h
      have hp := MI hp rfl
      obtain ⟨hp1, hp2⟩ := AV hp
      obtain ⟨hp2, hp3⟩ := AV hp2
      have := IG trivial hp1 (hρ c)
      rw [hc] at this
      have hcv : ρ c = .bool t := this.d_inv.v_inv
      refine ⟨if t then ρ a else ρ b, w, .inl (by simp [execOp, ho, hcv, asBool]), B, ι, Moved.refl hH, ?_⟩
      simp only [BLY]
      cases t
      · exact IG rfl hp3 (hρ b)
      · exact IG rfl hp2 (hρ a)
    · cases h
  · rename_i t len ps ho
    split at h
    · rename_i v0 r0 k n get p0 hb
      cases h
      have ht := MI hp rfl
      obtain ⟨k', n', get', y, w', he, h1, h2⟩ := Jd (parts := ps.map λ x => (x.1, ρ x.2)) hb hH (by simp) (λ j a y ha hy => by
        obtain ⟨x, hx, rfl⟩ := Fz ha
        rw [Array.getElem?_toList] at hx
        simp [hx] at hy
        subst hy
        have hm : x.2 ∈ (Op.buildSlice t len ps).operands.toList := by
          simp only [Op.operands, List.mem_map]
          exact ⟨x, by simpa using Array.mem_of_getElem? hx, rfl⟩
        exact ⟨rfl, IG trivial (Vn ht x.2 hm) (hρ x.2)⟩)
      simp only [Eff.mk.injEq, List.cons.injEq, Prod.mk.injEq, HCell.live.injEq, AObj.row.injEq, and_true] at he
      obtain ⟨_, ⟨_, rfl, rfl, rfl⟩, _⟩ := he
      exact ⟨y, w', .inl (by simp [execOp, ho, h1]), h2⟩
    · cases h
  · split at h
    · rename_i v0 p0 he
      cases h
      have hp := MI hp rfl
      obtain ⟨hp1, hp2⟩ := AV hp
      exact gen he rfl hp2 hp1
    · cases h
theorem BZY {f : Operand} {args : Array Operand} {first caps : List AVal} {ρA : Operand -> AVal} {ρ : Operand -> Value} {g : FuncId} (hf : VRel B ι D (.fn (.func g) first caps) (ρ f)) (hargs : ∀ x, x ∈ args -> VRel B ι D (ρA x) (ρ x)) :
    ∃ xs ys, ρ f = .func (.func g) xs ys /\ OW B ι D (first ++ args.toList.map ρA ++ caps) (xs ++ args.map ρ ++ ys) := by
  obtain ⟨xs, ys, hfe, hx, hy, h1, h2⟩ : ∃ xs ys, ρ f = .func (.func g) xs ys /\ xs.size = first.length /\ ys.size = caps.length /\
      (∀ (j : Nat) (x : AVal) (y : Value), first[j]? = some x -> xs[j]? = some y -> VRel B ι D x y) /\ (∀ (j : Nat) (x : AVal) (y : Value), caps[j]? = some x -> ys[j]? = some y -> VRel B ι D x y) := by
    generalize ρ f = v at hf
    cases hf with
    | fn hx hy h1 h2 => exact ⟨_, _, rfl, hx, hy, h1, h2⟩
  refine ⟨xs, ys, hfe, by simp [hx, hy], λ j x y hxj hyj => ?_⟩
  have hyj' : (xs.toList ++ args.toList.map ρ ++ ys.toList)[j]? = some y := by
    rw [<- Array.getElem?_toList] at hyj; simpa using hyj
  have hl1 : xs.toList.length = first.length := by simpa using hx
  by_cases hj1 : j < first.length
  · rw [List.append_assoc, List.getElem?_append_left hj1] at hxj
    rw [List.append_assoc, List.getElem?_append_left (by omega)] at hyj'
    exact h1 j x y hxj (by simpa using hyj')
  · by_cases hj2 : j < first.length + args.size
    · rw [List.getElem?_append_left (by simp; omega), List.getElem?_append_right (by omega)] at hxj
      rw [List.getElem?_append_left (by simp [hx]; omega), List.getElem?_append_right (by omega), hl1] at hyj'
      obtain ⟨q, hq, rfl⟩ := Fz hxj
      obtain ⟨q', hq', rfl⟩ := Fz hyj'
      rw [hq] at hq'; cases hq'
      exact hargs q (by rw [Array.getElem?_toList] at hq; exact Array.mem_of_getElem? hq)
    · rw [List.getElem?_append_right (by simp; omega)] at hxj
      rw [List.getElem?_append_right (by simp [hx]; omega)] at hyj'
      simp only [List.length_append, List.length_map, Array.length_toList] at hxj hyj'
      rw [hx] at hyj'
      exact h2 _ x y hxj (by simpa using hyj')
theorem Runs.not_defer {ρ : Operand -> Value} {o : Oper} {y : Value} (h : Runs P ρ o w y w') : ∀ c, o.op ≠ .defer c := by
  intro c hc
  unfold Runs execOp at h
  rw [hc] at h
  simp only [Sem.run_bind] at h
  cases hr : (resolve ρ c o.type).run P w with
  | ok d w1 => rw [hr] at h; simp at h
  | halt x w1 => rw [hr] at h; simp at h
theorem KU (o : Oper) (a : Act) (rd : Option Nat) : ∀ f, o.about P w a.eval = some f -> (xR rd).fn f := λ _ _ => trivial
theorem StepO.sound {mt : Bool} {ops : Array Oper} {r : Nat} {σ : AState} {o : Oper} {val : AVal} {upd : List (Nat × HCell)} {touch : List Nat} (h : StepO P mt ops r σ o val upd touch)
    {c : Ctx} {a : Act} (hR : Rel c B ι σ a w) (hdst : ∀ d, o.dst = some d -> d < c.n) {K : Act -> World -> Prop} {Q : Exit -> Act -> World -> Prop}
    (hK : ∀ B' ι' a' w', Rel c B' ι' (σ.app o.dst val upd) a' w' -> K a' w') :
    if Region.wanted o (yielded ops a.tmps) then o.wpIn (xR c.rd) 0 P a w K Q else (∀ f, o.about P w a.eval = some f -> (xR c.rd).fn f) /\ K (a.put o.dst undef) w := by
  have plain : ∀ {v : AVal} {u : List (Nat × HCell)} {y : Value} {w' : World}, Runs P a.eval o w y w' -> HQ B ι σ.H w (CN σ.H u) v y w' -> (∀ B' ι' a' w', Rel c B' ι' (σ.app o.dst v u) a' w' -> K a' w') -> o.wpIn (xR c.rd) 0 P a w K Q := λ hrun hd hK => by
    obtain ⟨B', ι', hR'⟩ := hR.app hd hdst
    refine ⟨KU o a _, ?_⟩
    rw [Oper.semAt_eq _ _ _ hrun.not_defer]
    rcases hrun with hrun | ⟨hrun, rfl⟩
    · rw [hrun]; exact hK B' ι' _ _ hR'
    · rw [hrun]; exact hK B' ι' _ _ hR'
  have called : ∀ {f : Operand} {args : Array Operand} {ats : Array TypeId} {g : FuncId} {first caps : List AVal} {ρA : Operand -> AVal} {v0 v : AVal} {u : List (Nat × HCell)}, o.op = .call ⟨.value f, args, ats⟩ ->
      VRel B ι σ.H.dom (.fn (.func g) first caps) (a.eval f) -> (∀ x, x ∈ args -> VRel B ι σ.H.dom (ρA x) (a.eval x)) -> CQL P g (first ++ args.toList.map ρA ++ caps) σ.H v0 u ->
      (∀ y w', HQ B ι σ.H w (CN σ.H u) v0 y w' -> HQ B ι σ.H w (CN σ.H u) v y w') -> (∀ B' ι' a' w', Rel c B' ι' (σ.app o.dst v u) a' w' -> K a' w') -> o.wpIn (xR c.rd) 0 P a w K Q := λ {f args ats g first caps ρA v0 v u} ho hf hargs hc hval hK => by
    obtain ⟨he, hcall⟩ := hc
    obtain ⟨xs, ys, hfe, hA⟩ := BZY hf hargs
    have hrun : (execOp a.eval o).run P w = .ok (.enter g (xs ++ args.map a.eval ++ ys)) w := by
      simp only [execOp, ho, resolve, hfe, Deferred.ofValue, invoke, Sem.run_bind, Sem.run_pure, Result.andThen_ok]
      exact he _ w
    refine ⟨KU o a _, ?_⟩
    rw [Oper.semAt_eq _ _ _ (by rw [ho]; exact λ _ h => by cases h), hrun]
    rw [Oper.uponIn_enter]
    have h0 : CallsIn (xR c.rd) (0 - 1) P g (xs ++ args.map a.eval ++ ys) w λ e w' => ∃ v, e = .returned v /\ HQ B ι σ.H w (CN σ.H u) v0 v w' := callsIn_wide.2 (hcall B ι w _ hA hR.mv.heap)
    refine ⟨(λ h => by cases h), CallsIn.mono h0 λ e w' hh => ?_⟩
    obtain ⟨v, rfl, hd⟩ := hh
    obtain ⟨B', ι', hR'⟩ := hR.app (hval _ _ hd) hdst
    exact hK B' ι' _ _ hR'
  have skip : ∀ {v : AVal}, (∀ B' ι' a' w', Rel c B' ι' (σ.app o.dst (.opt false v) []) a' w' -> K a' w') -> K (a.put o.dst undef) w := λ hK => by
    obtain ⟨B', ι', h⟩ := hR.app (dst := o.dst) (v := .opt false _) (y := undef) (u := []) ⟨B, ι, Moved.refl hR.mv.heap, .opt (λ h => by cases h) (λ _ => rfl)⟩ hdst
    exact hK B' ι' _ _ h
  have toOpt : ∀ {v : AVal} {u : List (Nat × HCell)} {y : Value} {w' : World}, HQ B ι σ.H w (CN σ.H u) v y w' -> HQ B ι σ.H w (CN σ.H u) (.opt true v) y w' := λ ⟨B', ι', hm, hv⟩ => ⟨B', ι', hm, .opt (λ _ => hv) (λ h => by cases h)⟩
  cases h with
  | op hg h hp hr =>
    simp only [Region.wanted, hg, if_true]
    obtain ⟨y, w', hrun, hd⟩ := BAZ (ρ := a.eval) h hp (λ x => DS hR.slots x) (λ _ => rfl) hr hR.mv.heap
    exact plain hrun hd hK
  | gop hg hw h hp hr =>
    rename_i j want g v p
    rw [uU hg hw hR.slots]
    cases g with
    | false => simpa using ⟨KU o a _, skip hK⟩
    | true =>
      simp only [if_true]
      obtain ⟨y, w', hrun, hd⟩ := BPT (ρ := a.eval) h hp (λ x => DS hR.slots x) (λ _ => rfl) hr hR.mv.heap
      exact plain (u := []) hrun (toOpt (u := []) hd) hK
  | call hg ho hf hc hcells hr =>
    simp only [Region.wanted, hg, if_true]
    rename_i f args ats g first caps cells
    have hfv := DS hR.slots f
    rw [hf] at hfv
    exact called ho hfv (λ x _ => DS hR.slots x) (hc σ.H hcells hr) (λ _ _ h => h) hK
  | inv hg ho hf hm hc hcells hr =>
    simp only [Region.wanted, hg, if_true]
    rename_i x m args ats t d g cells
    have hfv := DS hR.slots x
    rw [hf] at hfv
    obtain ⟨y, hy, hd⟩ : ∃ y, a.eval x = .iface t y /\ DRel B d y := by
      generalize a.eval x = z at hfv
      cases hfv.d_inv with
      | iface h => exact ⟨_, rfl, h⟩
    obtain ⟨he, hcall⟩ := hc σ.H hcells hr
    have hrun : (execOp a.eval o).run P w = .ok (.enter g (#[y] ++ args.map a.eval)) w := by
      obtain ⟨e1, e2⟩ := arr1 (a.eval x) (args.map a.eval)
      simp only [execOp, ho, resolve, invoke, Sem.run_bind, Sem.run_pure, Result.andThen_ok, e1, e2]
      rw [hy]
      simp only [callMethod, Sem.run_bind]
      obtain ⟨n, hn⟩ : ∃ n, P.types.size + Made.depth = n + 1 := ⟨_, (Nat.succ_pred_eq_of_pos (Nat.add_pos_right _ (by decide))).symm⟩
      simp only [run_program, Result.andThen_ok, hn, BOS hm n y w]
      exact he _ w
    have hA : OW B ι σ.H.dom (.d d :: args.toList.map (AO σ.sl)) (#[y] ++ args.map a.eval) := by
      refine ⟨by simp [Nat.add_comm], λ j q v hq hv => ?_⟩
      cases j with
      | zero =>
        rw [(arr1 y (args.map a.eval)).1] at hv
        simp only [List.getElem?_cons_zero, Option.some.injEq] at hq hv; subst hq; subst hv; exact .d hd
      | succ j =>
        simp only [List.getElem?_cons_succ, List.getElem?_map, Option.map_eq_some_iff] at hq
        obtain ⟨z, hz, rfl⟩ := hq
        rw [Array.getElem?_append_right (by simp)] at hv
        simp only [List.size_toArray, List.length_cons, List.length_nil, Nat.zero_add, Nat.add_sub_cancel, Array.getElem?_map, Option.map_eq_some_iff] at hv
        obtain ⟨z', hz', rfl⟩ := hv
        rw [Array.getElem?_toList] at hz
        rw [hz] at hz'; cases hz'
        exact DS hR.slots z
    refine ⟨KU o a _, ?_⟩
    rw [Oper.semAt_eq _ _ _ (by rw [ho]; exact λ _ h => by cases h), hrun]
    rw [Oper.uponIn_enter]
    have h0 : CallsIn (xR c.rd) (0 - 1) P g (#[y] ++ args.map a.eval) w λ e w' => ∃ v, e = .returned v /\ HQ B ι σ.H w (CN σ.H upd) val v w' := callsIn_wide.2 (hcall B ι w _ hA hR.mv.heap)
    refine ⟨(λ h => by cases h), CallsIn.mono h0 λ e w' hh => ?_⟩
    obtain ⟨v, rfl, hd⟩ := hh
    obtain ⟨B', ι', hR'⟩ := hR.app hd hdst
    exact hK B' ι' _ _ hR'
  | gcall hg hw ho hf htags hc hcells hr =>
    rename_i j want gd f args ats g first caps cells v
    rw [uU hg hw hR.slots]
    cases gd with
    | false => simpa using ⟨KU o a _, skip hK⟩
    | true =>
      simp only [if_true]
      have ht := Vn (htags rfl)
      have hfv := IG trivial (ht f (by rw [ho]; simp [Op.operands, Call.operands])) (DS hR.slots f)
      rw [hf] at hfv
      exact called (ρA := λ x => BL (AO σ.sl x)) ho hfv (λ x hx => IG trivial (ht x (by rw [ho]; simp [Op.operands, Call.operands]; exact .inr hx)) (DS hR.slots x)) (hc rfl σ.H hcells hr) (λ _ _ h => toOpt h) hK
def LexE (P : Program) (mt : Bool) (ops : Array Oper) (base n : Nat) (Q : AState -> Prop) : List Oper -> Nat -> AState -> Prop
  | [], _, σ => Q σ
  | o :: l, k, σ => ∃ val upd touch, StepO P mt ops (base + 16 * k) σ o val upd touch /\ (∀ d, o.dst = some d -> d < n) /\ LexE P mt ops base n Q l (k + 1) (σ.app o.dst val upd)
def CodeE (P : Program) (c : Ctx) (code : Code) (Q : Exit -> AState -> Prop) (σ : AState) : Prop :=
  ∀ B ι a w, Rel c B ι σ a w -> code.wpIn (xR c.rd) 0 P (λ e a' w' => ∃ B' ι' σ', Q e σ' /\ Rel c B' ι' σ' a' w') a w
theorem CodeE.mono {c : Ctx} {code : Code} {Q Q' : Exit -> AState -> Prop} {σ : AState} (h : CodeE P c code Q σ) (hq : ∀ e σ, Q e σ -> Q' e σ) : CodeE P c code Q' σ :=
  λ B ι a w hR => wpIn_mono (h B ι a w hR) λ _ _ _ ⟨B', ι', σ', hQ, hR'⟩ => ⟨B', ι', σ', hq _ _ hQ, hR'⟩
theorem CHT {mt : Bool} {ops : Array Oper} {base : Nat} {c : Ctx} {Q : Exit -> AState -> Prop} : ∀ (l : List Oper) (k : Nat) (σ : AState), LexE P mt ops base c.n (Q .normal) l k σ -> ∀ B ι a w, Rel c B ι σ a w ->
    wpListIn (xR c.rd) 0 P ops (λ e a' w' => ∃ B' ι' σ', Q e σ' /\ Rel c B' ι' σ' a' w') l a w
  | [], _, σ, h, B, ι, _, _, hR => ⟨B, ι, σ, h, hR⟩
  | o :: l, k, σ, h, B, ι, a, w, hR => by
    obtain ⟨val, upd, touch, hs, hd, hl⟩ := h
    exact hs.sound hR hd (λ B' ι' a' w' hR' => CHT l (k + 1) _ hl B' ι' a' w' hR')
theorem BQY {mt : Bool} {id : Nat} {ops : Array Oper} {base : Nat} {c : Ctx} {Q : Exit -> AState -> Prop} {σ : AState} (h : LexE P mt ops base c.n (Q .normal) ops.toList 0 σ) : CodeE P c (.region id ops false) Q σ :=
  λ B ι a w hR => wpIn_region_list (CHT ops.toList 0 σ h B ι a w hR)
end Go.Sym
