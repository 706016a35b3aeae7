/- States against worlds; one step of a region. -/
import Derived.Test.YtonddbmhljelgaaSym4
import Derived.OrdersIn
import Derived.TacticsIn
import Derived.RangeFuncRecord
import Derived.Sort.LoopGhostIn
import Derived.Scope
set_option linter.unusedVariables false
set_option linter.unusedSimpArgs false
namespace Go.Sym
variable {P : Program} {B B' : Imm} {ι ι' : Nat -> Pl} {H H' : Heap} {D : Nat -> Prop} {w w' : World}
structure Ctx where
 B0 : Imm
 ι0 : Nat -> Pl
 H0 : Heap
 w0 : World
 n : Nat
 rd : Option Nat
 mks : Bool
def XT (rd : Option Nat) : Fence := { Fence.wide with round := rd }
structure Quiet (b : Nat) (x : Obj) (ι : Nat -> Pl) (H : Heap) (w : World) : Prop where
 here : w.heap[b]? = some x
 sep : ∀ i o, H i = .live o -> (ι i).b ≠ b
theorem Quiet.moved {b : Nat} {x : Obj} (h : Quiet b x ι H w) (m : Moved B ι H w B' ι' H' w') : Quiet b x ι' H' w' := by
 have hlt : b < w.heap.size := (Array.getElem?_eq_some_iff.1 h.here).1
 refine ⟨by rw [m.frame b hlt h.sep]; exact h.here, λ i o hi => ?_⟩
 rcases m.own i o hi with ⟨i0, o0, h1, h2⟩ | h1
 ·rw [<- h2]; exact h.sep _ _ h1
 ·omega
theorem HRel.put {b : Nat} {x : Obj} (h : HRel B ι H w) (hq : Quiet b x ι H w) (hx : ∀ c e fr, x ≠ .cells c e fr) (y : Obj) : HRel B ι H (w.putObj b y) := by
 have oth : ∀ k, k ≠ b -> (w.putObj b y).heap[k]? = w.heap[k]? := λ k hk => World.putObj_heap_other hk
 refine ⟨λ i o hi => ?_, h.inj, h.sep, λ k c hk => ?_⟩
 ·rw [oth _ (hq.sep i o hi)]; exact h.obj i o hi
 ·obtain ⟨e, fr, h1⟩ := h.imm k c hk
  refine ⟨e, fr, ?_⟩
  rw [oth]; exact h1
  intro he; subst he
  rw [hq.here] at h1; cases h1; exact hx _ _ _ rfl
theorem Moved.put {b : Nat} {x : Obj} (m : Moved B ι H w B' ι' H' w') (hq : Quiet b x ι' H' w') (hx : ∀ c e fr, x ≠ .cells c e fr) (hb : w.heap.size <= b) (y : Obj) : Moved B ι H w B' ι' H' (w'.putObj b y) :=
 ⟨m.bm, m.bn, m.im, m.heap.put hq hx y, m.own, λ k hk hno => by rw [World.putObj_heap_other (by omega)]; exact m.frame k hk hno, by rw [World.putObj_size]; exact m.size, ⟨m.calm.os, m.calm.tape, m.calm.output⟩⟩
theorem Quiet.put_other {b d : Nat} {x y : Obj} (h : Quiet b x ι H w) (hd : d ≠ b) : Quiet b x ι H (w.putObj d y) := ⟨by rw [World.putObj_heap_other (Ne.symm hd)]; exact h.here, h.sep⟩
theorem Quiet.put_same {b : Nat} {x : Obj} (h : Quiet b x ι H w) (y : Obj) : Quiet b y ι H (w.putObj b y) := ⟨World.putObj_heap_same (Array.getElem?_eq_some_iff.1 h.here).1, h.sep⟩
def Dl (Ds : List Nat) : List Deferred := Ds.map λ D => { target := .collected D, args := #[] }
structure Rel (c : Ctx) (B : Imm) (ι : Nat -> Pl) (σ : AState) (a : Act) (w : World) : Prop where
 slots : ∀ t, VRel B ι σ.H.dom (σ.sl t) (a.tmps.getD t undef)
 size : a.tmps.size = c.n
 defers : ∃ Ds : List Nat, a.defers = Dl Ds /\ (c.mks = false -> Ds = []) /\ Ds.Nodup /\ ∀ D ∈ Ds, c.w0.heap.size <= D /\ Quiet D (.deferred (some [])) ι σ.H w
 mv : Moved c.B0 c.ι0 c.H0 c.w0 B ι σ.H w
def AState.app (σ : AState) (dst : Option Tmp) (v : AVal) (u : List (Nat × HCell)) : AState := ⟨MG σ.sl dst v, CF σ.H u⟩
def Ex (P : Program) (f : FuncId) : Prop := ∀ (args : Array Value) (w : World), (callFunc f args).run P w = .ok (.enter f args) w
theorem Cw {f : FuncId} {fn : Func} {c : Code} (hf : P.funcs[f]? = some fn) (hname : (fn.name == "runtime.NumGoroutine") = false) (hb : fn.body = some c) : Ex P f := by
 intro args w
 have h1 : fn.name ≠ "runtime.NumGoroutine" := by simpa using hname
 simp [callFunc, hf, h1, hb, mark]
def KA (B : Imm) (ι : Nat -> Pl) (D : Nat -> Prop) (as : List AVal) (vs : Array Value) : Prop :=
 vs.size = as.length /\ ∀ (j : Nat) (a : AVal) (y : Value), as[j]? = some a -> vs[j]? = some y -> VRel B ι D a y
def Sl (P : Program) (g : FuncId) (as : List AVal) (H : Heap) (val : AVal) (upd : List (Nat × HCell)) : Prop :=
 Ex P g /\ ∀ (B : Imm) (ι : Nat -> Pl) (w : World) (vs : Array Value), KA B ι H.dom as vs -> HRel B ι H w ->
  Calls P g vs w λ e w' => ∃ v, e = .returned v /\ GV B ι H w (CF H upd) val v w'
def Kf (P : Program) (g : FuncId) (as : List AVal) (r : Nat) (cells : List (Nat × HCell)) (val : AVal) (upd : List (Nat × HCell)) : Prop :=
 ∀ H : Heap, (∀ p ∈ cells, H p.1 = p.2) -> (∀ i, r <= i -> i < r + 16 -> H i = .none) -> Sl P g as H val upd
def EY : AVal -> List Nat
 | .bptr id _ | .rptr id _ _ _ | .own id _ _ _ | .mref id => [id]
 | _ => []
def Fc : Op -> Bool
 | .indexAddr .. | .fieldAddr .. | .nilCheck .. | .move .. | .assign .. | .extract .. | .field .. | .index .. => true
 | _ => false
def LE (ρ : Operand -> AVal) (op : Op) : List Nat := bif Fc op then [] else op.operands.toList.flatMap λ x => EY (ρ x)
theorem VN {mt : Bool} {r : Nat} {ρ ρ' : Operand -> AVal} {H H' : Heap} (op : Op) (h : ∀ x ∈ op.operands, ρ x = ρ' x) (hH : ∀ id ∈ LE ρ op, H id = H' id) : Mk P mt r ρ H op = Mk P mt r ρ' H' op := by
 have foot : Fc op = false -> ∀ x ∈ op.operands, ∀ id ∈ EY (ρ x), H id = H' id := λ hn x hx id hid => hH id (by unfold LE; rw [hn]; exact List.mem_flatMap.2 ⟨x, by simpa using hx, hid⟩)
 have rd : ∀ (p : AVal), (∀ id ∈ EY p, H id = H' id) -> PL H p = PL H' p := by
  intro p hp
  cases p with
  | bptr id c => simp only [PL, hp id (by simp [EY])]
  | rptr id k i c => simp only [PL, hp id (by simp [EY])]
  | d x => cases x <;> rfl
  | _ => rfl
 have src : ∀ (p : AVal), (∀ id ∈ EY p, H id = H' id) -> Fm H p = Fm H' p := by
  intro p hp
  cases p with
  | own id k j m => simp only [Fm, hp id (by simp [EY])]
  | d x => cases x <;> rfl
  | _ => rfl
 have dst : ∀ (p : AVal), (∀ id ∈ EY p, H id = H' id) -> Hj H p = Hj H' p := by
  intro p hp
  cases p with
  | own id k j m => cases j <;> simp only [Hj, hp id (by simp [EY])]
  | d x => cases x with
   | list k n g e => cases e <;> rfl
   | _ => rfl
  | _ => rfl
 have mp : ∀ (p : AVal), (∀ id ∈ EY p, H id = H' id) -> UK H p = UK H' p := by
  intro p hp
  cases p with
  | mref id => simp only [UK, hp id (by simp [EY])]
  | _ => rfl
 have pairs : ∀ ps : Array (Nat × Operand), (∀ x ∈ (ps.toList.map (·.2)), ρ x = ρ' x) -> (ps.toList.map λ p => (p.1, ρ p.2)) = (ps.toList.map λ p => (p.1, ρ' p.2)) := λ ps hp =>
  List.map_congr_left λ p hm => by rw [hp p.2 (List.mem_map.2 ⟨p, hm, rfl⟩)]
 have opt : ∀ q : Option Operand, (∀ x ∈ q.toArray, ρ x = ρ' x) -> q.map ρ = q.map ρ' := λ q hq => by
  cases q with
  | none => rfl
  | some x => simp [hq x (by simp)]
 cases op <;> simp only [Op.operands, Fc, eq_self, true_implies, reduceCtorEq, false_implies] at h foot <;> simp only [Mk]
 case move x => rw [h x (by simp)]
 case assign x => rw [h x (by simp)]
 case pick c a b => rw [h c (by simp), h a (by simp), h b (by simp)]
 case box t x => rw [h x (by simp)]
 case build t ps => rw [pairs ps λ x hx => h x (by simpa using hx)]
 case buildSlice t n ps => rw [pairs ps λ x hx => h x (by simpa using hx)]
 case load t a =>
  have hr := rd (ρ a) (foot a (by simp))
  have he := h a (by simp)
  have : ZS P H t (ρ a) = ZS P H' t (ρ a) := by
   unfold ZS; rw [hr]
   split
   ·generalize hq : ρ a = p at *
    split
    ·rename_i id k; rw [foot a (by simp) id (by rw [hq]; simp [EY])]
    ·rfl
   ·rfl
   ·rfl
  rw [this, he]
 case store t a x =>
  have he := h a (by simp)
  have hx := h x (by simp)
  have hf := foot a (by simp)
  rw [<- he, <- hx]
  generalize ρ a = p at hf
  cases p with
  | bptr id c =>
   have e := hf id (by simp [EY])
   unfold VP
   generalize P.underlying t = u
   generalize (P.info? t).map (·.size) = s
   cases u with
   | none => rfl
   | some d => cases s with
    | none => rfl
    | some n => simp only [e]
  | rptr id k i c =>
   have e := hf id (by simp [EY])
   unfold VP
   generalize P.underlying t = u
   generalize (P.info? t).map (·.size) = s
   cases u with
   | none => cases i <;> cases c <;> rfl
   | some d => cases s with
    | none => cases d <;> cases i <;> cases c <;> rfl
    | some n => cases d <;> cases i <;> cases c <;> simp only [e]
  | _ => rfl
 case nilCheck x => rw [h x (by simp)]
 case lookup t m ix ok =>
  rw [h ix (by simp), <- h m (by simp)]
  have := mp (ρ m) (foot m (by simp))
  unfold XY; rw [this]
 case mapUpdate t m k x =>
  rw [h k (by simp), h x (by simp), <- h m (by simp)]
  have := mp (ρ m) (foot m (by simp))
  unfold QP; rw [this]
 case insert t m k x =>
  rw [h k (by simp), h x (by simp), <- h m (by simp)]
  have := mp (ρ m) (foot m (by simp))
  unfold QP; rw [this]
 case mapEntry t m k =>
  rw [h k (by simp), <- h m (by simp)]
  have := mp (ρ m) (foot m (by simp))
  unfold Du; rw [this]
 case entryStore t m s x =>
  rw [h s (by simp), h x (by simp), <- h m (by simp)]
  have := mp (ρ m) (foot m (by simp))
  unfold LP; rw [this]
 case binOp op t x y yt => rw [h x (by simp), h y (by simp)]
 case unOp op t x => rw [h x (by simp)]
 case convert s d x => rw [h x (by simp)]
 case makeFunc fn first caps =>
  rw [List.map_congr_left (l := first.toList) λ x hx => h x (by simp at hx; simp [hx]), List.map_congr_left (l := caps.toList) λ x hx => h x (by simp at hx; simp [hx])]
 case makeSlice t l c => rw [h l (by simp), h c (by simp)]
 case slice t x lo hi mx =>
  have e1 := opt lo λ y hy => h y (by simp at hy; simp [hy])
  have e2 := opt hi λ y hy => h y (by simp at hy; simp [hy])
  have e3 := opt mx λ y hy => h y (by simp at hy; simp [hy])
  have hf := foot x (by simp)
  have a1 : KH P H t (ρ x) = KH P H' t (ρ x) := by
   generalize ρ x = p at hf
   unfold KH
   split
   ·rename_i m e id k hu; rw [hf id (by simp [EY])]
   ·rfl
  have a2 : ∀ l q m, NB P H t (ρ x) l q m = NB P H' t (ρ x) l q m := λ l q m => by
   generalize ρ x = p at hf
   unfold NB
   split
   ·rename_i id k n km mm hu; rw [hf id (by simp [EY])]
   ·rfl
  have hx := h x (by simp)
  rw [hx] at a1 a2
  rw [hx, e1, e2, e3]
  split
  ·rfl
  ·split
   ·rw [a1]
   ·rw [a2, e1, e2, e3]
 case fieldAddr s x f => rw [h x (by simp)]
 case field s x f => rw [h x (by simp)]
 case indexAddr t x ix => rw [h x (by simp), h ix (by simp)]
 case index t x ix => rw [h x (by simp), h ix (by simp)]
 case extract x i => rw [h x (by simp)]
 case call c =>
  obtain ⟨callee, args, ats⟩ := c
  cases callee with
  | builtin b =>
   simp only [Call.operands] at h foot
   simp only
   have hm : args.toList.map ρ = args.toList.map ρ' := List.map_congr_left λ x hx => h x (by simpa using hx)
   rw [<- hm]
   unfold ZC
   split
   ·rfl
   ·rename_i s x hl
    split
    ·rename_i t t2 ht
     have ms : ∀ z, z ∈ args.toList.map ρ -> ∀ id ∈ EY z, H id = H' id := λ z hz id hid => by
      obtain ⟨y, hy, rfl⟩ := List.mem_map.1 hz
      exact foot y (by simpa using hy) id hid
     rw [hl] at ms
     unfold VF
     rw [dst s (ms s (by simp)), src x (ms x (by simp))]
    ·rfl
   ·rename_i d x hl
    split
    ·have ms : ∀ z, z ∈ args.toList.map ρ -> ∀ id ∈ EY z, H id = H' id := λ z hz id hid => by
      obtain ⟨y, hy, rfl⟩ := List.mem_map.1 hz
      exact foot y (by simpa using hy) id hid
     rw [hl] at ms
     have hd := ms d (by simp)
     unfold Ks
     rw [src x (ms x (by simp))]
     split
     ·rename_i e id k n k2 m DQ p2 hu hs; rw [hd id (by simp [EY])]
     ·rfl
    ·rfl
   ·rfl
   ·rfl
   ·rfl
  | _ => rfl
def CR (ops : Array Oper) (sl : Nat -> AVal) (j : Nat) (want : Bool) : Option Bool := match (ops[j]?).bind (·.dst) with
 | some t => match want, sl t with
  | true, .d (.v (.bool b)) => some b
  | false, .d (.v (.bool b)) => some (!b)
  | true, .opt g (.d (.v (.bool b))) => some (g && b)
  | false, .opt g (.d (.v (.bool b))) => some (g && !b)
  | _, _ => none
 | none => none
theorem ZD {ops : Array Oper} {a : Act} {j : Nat} {t : Tmp} (ht : (ops[j]?).bind (·.dst) = some t) : (∀ b, a.tmps.getD t undef = .bool b -> yielded ops a.tmps j = some b) /\ (a.tmps.getD t undef = .tuple #[] -> yielded ops a.tmps j = none) := by
 have hget : a.tmps.getD t undef = (a.tmps[t]?).getD undef := by simp
 simp only [yielded, ht, Option.bind_some]
 refine ⟨λ b h => ?_, λ h => ?_⟩ <;> rw [hget] at h <;> cases hq : a.tmps[t]? with
  | none => rw [hq] at h <;> first | rfl | cases h
  | some x => rw [hq] at h; simp at h; subst h; rfl
theorem VA {ops : Array Oper} {sl : Nat -> AVal} {o : Oper} {j : Nat} {want g : Bool} {a : Act} (hg : o.guard = some (j, want)) (h : CR ops sl j want = some g) (hs : ∀ t, VRel B ι D (sl t) (a.tmps.getD t undef)) :
  Region.wanted o (yielded ops a.tmps) = g := by
 unfold CR at h
 simp only [Region.wanted, hg]
 split at h
 ·rename_i t ht
  have hv := hs t
  obtain ⟨y1, y2⟩ := ZD (a := a) ht
  split at h
  ·rename_i b hb
   cases h
   rw [hb] at hv
   rw [y1 _ hv.d_inv.v_inv]
   cases g <;> rfl
  ·rename_i b hb
   cases h
   rw [hb] at hv
   rw [y1 _ hv.d_inv.v_inv]
   cases b <;> rfl
  ·rename_i g' b hb
   cases h
   rw [hb] at hv
   cases hv with
   | opt h1 h2 =>
    cases g' with
    | true => rw [y1 b (h1 rfl).d_inv.v_inv]; cases b <;> rfl
    | false => rw [y2 (h2 rfl)]; rfl
  ·rename_i g' b hb
   cases h
   rw [hb] at hv
   cases hv with
   | opt h1 h2 =>
    cases g' with
    | true => rw [y1 b (h1 rfl).d_inv.v_inv]; cases b <;> rfl
    | false => rw [y2 (h2 rfl)]; rfl
  ·cases h
 ·cases h
def PV (g : Bool) : List Prop -> List Prop
 | [] => []
 | l => [g = true -> BK l]
theorem IL {g : Bool} {l : List Prop} (h : BK (PV g l)) (hg : g = true) : BK l := by
 cases l with
 | nil => trivial
 | cons p r => exact h hg
def HA (ρ : Operand -> AVal) (l : List Operand) : List Prop := l.flatMap λ x => KQ True (ρ x)
def Bw (P : Program) (r : Nat) (ρ : Operand -> AVal) (H : Heap) (g : Bool) (op : Op) : Option (AVal × List Prop) := match op with
 | .pick c a b => match BI (ρ c) with
  | .d (.v (.bool t)) => some (Bc t (BI (ρ a)) (BI (ρ b)), PV g (KQ True (ρ c) ++ (KQ (t = true) (ρ a) ++ KQ (t = false) (ρ b))))
  | _ => none
 | .buildSlice t len ps => match GF P r t len (ps.toList.map λ p => (p.1, BI (ρ p.2))) with
  | some ⟨_, [(_, .live (.row k n get))], _⟩ => some (.d (.list k n get true), PV g (HA ρ (Op.buildSlice t len ps).operands.toList))
  | _ => none
 | op => match Mk P false r (λ x => BI (ρ x)) H op with
  | some ⟨v, [], p⟩ => some (v, PV g (HA ρ op.operands.toList ++ p))
  | _ => none
inductive StepO (P : Program) (mt : Bool) (ops : Array Oper) (r : Nat) (σ : AState) (o : Oper) : AVal -> List (Nat × HCell) -> List Nat -> Prop
 | op {e : Eff} (hg : o.guard = none) (h : Mk P mt r (AW σ.sl) σ.H o.op = some e) (hp : BK e.pre) (hr : σ.H r = .none) : StepO P mt ops r σ o e.val e.upd (r :: LE (AW σ.sl) o.op)
 | gop {j : Nat} {want g : Bool} {v : AVal} {p : List Prop} (hg : o.guard = some (j, want)) (hw : CR ops σ.sl j want = some g) (h : Bw P r (AW σ.sl) σ.H g o.op = some (v, p)) (hp : BK p) (hr : σ.H r = .none) :
   StepO P mt ops r σ o (.opt g v) [] (r :: LE (λ x => BI (AW σ.sl x)) o.op)
 | call {f : Operand} {args : Array Operand} {ats : Array TypeId} {g : FuncId} {first caps : List AVal} {cells upd : List (Nat × HCell)} {val : AVal} (hg : o.guard = none)
   (ho : o.op = .call ⟨.value f, args, ats⟩) (hf : AW σ.sl f = .fn (.func g) first caps) (hc : Kf P g (first ++ args.toList.map (AW σ.sl) ++ caps) r cells val upd)
   (hcells : ∀ p ∈ cells, σ.H p.1 = p.2) (hr : ∀ i, r <= i -> i < r + 16 -> σ.H i = .none) : StepO P mt ops r σ o val upd (cells.map (·.1) ++ (List.range 16).map (r + ·))
 | gcall {j : Nat} {want gd : Bool} {f : Operand} {args : Array Operand} {ats : Array TypeId} {g : FuncId} {first caps : List AVal} {cells : List (Nat × HCell)} {val : AVal} (hg : o.guard = some (j, want)) (hw : CR ops σ.sl j want = some gd)
   (ho : o.op = .call ⟨.value f, args, ats⟩) (hf : BI (AW σ.sl f) = .fn (.func g) first caps) (htags : gd = true -> BK (HA (AW σ.sl) o.op.operands.toList))
   (hc : gd = true -> Kf P g (first ++ args.toList.map (λ x => BI (AW σ.sl x)) ++ caps) r cells val [])
   (hcells : ∀ p ∈ cells, σ.H p.1 = p.2) (hr : ∀ i, r <= i -> i < r + 16 -> σ.H i = .none) : StepO P mt ops r σ o (.opt gd val) [] (cells.map (·.1) ++ (List.range 16).map (r + ·))
theorem Rel.app {c : Ctx} {σ : AState} {a : Act} {dst : Option Tmp} {v : AVal} {y : Value} {u : List (Nat × HCell)} (h : Rel c B ι σ a w) (hd : GV B ι σ.H w (CF σ.H u) v y w') (hdst : ∀ d, dst = some d -> d < c.n) :
  ∃ B' ι', Rel c B' ι' (σ.app dst v u) (a.put dst y) w' := by
 obtain ⟨B', ι', hm, hv⟩ := hd
 refine ⟨B', ι', ⟨λ t => ?_, ?_, ?_, h.mv.trans hm⟩⟩
 ·exact QL (λ t => hm.vrel (h.slots t)) (λ d hd => by rw [h.size]; exact hdst d hd) hv t
 ·cases dst <;> simp [Act.put, h.size]
 ·obtain ⟨Ds, h1, h0, h2, h3⟩ := h.defers
  exact ⟨Ds, by cases dst <;> simpa [Act.put] using h1, h0, h2, λ D hD => ⟨(h3 D hD).1, (h3 D hD).2.moved hm⟩⟩
theorem QN {ρA : Operand -> AVal} : ∀ {l : List Operand}, BK (HA ρA l) -> ∀ x, x ∈ l -> BK (KQ True (ρA x))
 | [], _, x, hx => by cases hx
 | y :: l, h, x, hx => by
  have h : BK (KQ True (ρA y) ++ HA ρA l) := h
  obtain ⟨h1, h2⟩ := AX h
  rcases List.mem_cons.1 hx with rfl | hx
  ·exact h1
  ·exact QN h2 x hx
theorem TX {ρ ρ' : Operand -> AVal} (op : Op) (h : ∀ x ∈ op.operands, ρ x = ρ' x) : LE ρ op = LE ρ' op := by
 unfold LE
 cases Fc op
 case true => rfl
 show op.operands.toList.flatMap _ = op.operands.toList.flatMap _
 have : ∀ l : List Operand, (∀ x ∈ l, ρ x = ρ' x) -> (l.flatMap λ x => EY (ρ x)) = l.flatMap λ x => EY (ρ' x) := by
  intro l hl
  induction l with
  | nil => rfl
  | cons x l ih => rw [List.flatMap_cons, List.flatMap_cons, hl x (by simp), ih λ y hy => hl y (by simp [hy])]
 exact this _ λ x hx => h x (by simpa using hx)
open Classical in
theorem Hz {r : Nat} {ρA : Operand -> AVal} {ρ : Operand -> Value} {o : Oper} {v : AVal} {p : List Prop} (h : Bw P r ρA H true o.op = some (v, p)) (hp : BK p) (hρ : ∀ x, VRel B ι H.dom (ρA x) (ρ x)) (hcv : ∀ v, ρ (.const v) = v) (hr : H r = .none) (hH : HRel B ι H w) :
  ∃ y w', Runs P ρ o w y w' /\ GV B ι H w H v y w' := by
 have gen : ∀ {e : Eff}, Mk P false r (λ x => BI (ρA x)) H o.op = some e -> e.upd = [] -> BK e.pre -> BK (HA ρA o.op.operands.toList) -> ∃ y w', Runs P ρ o w y w' /\ GV B ι H w H e.val y w' := by
  intro e he hu hpe ht
  let ρ' : Operand -> AVal := λ x => if x ∈ o.op.operands then BI (ρA x) else .any
  have hc : Mk P false r ρ' H o.op = some e := by
   rw [<- he]
   exact VN o.op (λ x hx => by show (if _ then _ else _) = _; rw [if_pos hx]) (λ _ _ => rfl)
  obtain ⟨y, w', h1, h2⟩ := Ce (ρ := ρ) hc hpe (λ x => by
   show VRel B ι H.dom (if _ then _ else _) _
   split
   ·rename_i hx; exact GR trivial (QN ht x (by simpa using hx)) (hρ x)
   ·exact .any) hcv hr hH
  rw [hu] at h2
  exact ⟨y, w', h1, h2⟩
 unfold Bw at h
 split at h
 ·rename_i c a b ho
  split at h
  ·rename_i t hc
   cases h
   have hp := IL hp rfl
   obtain ⟨hp1, hp2⟩ := AX hp
   obtain ⟨hp2, hp3⟩ := AX hp2
   have := GR trivial hp1 (hρ c)
   rw [hc] at this
   have hcv : ρ c = .bool t := this.d_inv.v_inv
   refine ⟨if t then ρ a else ρ b, w, .inl (by simp [execOp, ho, hcv, asBool]), B, ι, Moved.refl hH, ?_⟩
   simp only [Gj]
   cases t
   ·exact GR rfl hp3 (hρ b)
   ·exact GR rfl hp2 (hρ a)
  ·cases h
 ·rename_i t len ps ho
  split at h
  ·rename_i v0 r0 k n get p0 hb
   cases h
   have ht := IL hp rfl
   obtain ⟨k', n', get', y, w', he, h1, h2⟩ := XW (parts := ps.map λ x => (x.1, ρ x.2)) hb hH (by simp) (λ j a y ha hy => by
    obtain ⟨x, hx, rfl⟩ := QT ha
    rw [Array.getElem?_toList] at hx
    simp [hx] at hy
    subst hy
    have hm : x.2 ∈ (Op.buildSlice t len ps).operands.toList := by
     simp only [Op.operands, List.mem_map]
     exact ⟨x, by simpa using Array.mem_of_getElem? hx, rfl⟩
    exact ⟨rfl, GR trivial (QN ht x.2 hm) (hρ x.2)⟩)
   simp only [Eff.mk.injEq, List.cons.injEq, Prod.mk.injEq, HCell.live.injEq, AObj.row.injEq, and_true] at he
   obtain ⟨_, ⟨_, rfl, rfl, rfl⟩, _⟩ := he
   exact ⟨y, w', .inl (by simp [execOp, ho, h1]), h2⟩
  ·cases h
 ·split at h
  ·rename_i v0 p0 he
   cases h
   have hp := IL hp rfl
   obtain ⟨hp1, hp2⟩ := AX hp
   exact gen he rfl hp2 hp1
  ·cases h
theorem My {f : Operand} {args : Array Operand} {first caps : List AVal} {ρA : Operand -> AVal} {ρ : Operand -> Value} {g : FuncId} (hf : VRel B ι D (.fn (.func g) first caps) (ρ f)) (hargs : ∀ x, x ∈ args -> VRel B ι D (ρA x) (ρ x)) :
  ∃ xs ys, ρ f = .func (.func g) xs ys /\ KA B ι D (first ++ args.toList.map ρA ++ caps) (xs ++ args.map ρ ++ ys) := by
 obtain ⟨xs, ys, hfe, hx, hy, h1, h2⟩ : ∃ xs ys, ρ f = .func (.func g) xs ys /\ xs.size = first.length /\ ys.size = caps.length /\
   (∀ (j : Nat) (x : AVal) (y : Value), first[j]? = some x -> xs[j]? = some y -> VRel B ι D x y) /\ (∀ (j : Nat) (x : AVal) (y : Value), caps[j]? = some x -> ys[j]? = some y -> VRel B ι D x y) := by
  generalize ρ f = v at hf
  cases hf with
  | fn hx hy h1 h2 => exact ⟨_, _, rfl, hx, hy, h1, h2⟩
 refine ⟨xs, ys, hfe, by simp [hx, hy], λ j x y hxj hyj => ?_⟩
 have hyj' : (xs.toList ++ args.toList.map ρ ++ ys.toList)[j]? = some y := by
  rw [<- Array.getElem?_toList] at hyj; simpa using hyj
 have hl1 : xs.toList.length = first.length := by simpa using hx
 by_cases hj1 : j < first.length
 ·rw [List.append_assoc, List.getElem?_append_left hj1] at hxj
  rw [List.append_assoc, List.getElem?_append_left (by omega)] at hyj'
  exact h1 j x y hxj (by simpa using hyj')
 ·by_cases hj2 : j < first.length + args.size
  ·rw [List.getElem?_append_left (by simp; omega), List.getElem?_append_right (by omega)] at hxj
   rw [List.getElem?_append_left (by simp [hx]; omega), List.getElem?_append_right (by omega), hl1] at hyj'
   obtain ⟨q, hq, rfl⟩ := QT hxj
   obtain ⟨q', hq', rfl⟩ := QT hyj'
   rw [hq] at hq'; cases hq'
   exact hargs q (by rw [Array.getElem?_toList] at hq; exact Array.mem_of_getElem? hq)
  ·rw [List.getElem?_append_right (by simp; omega)] at hxj
   rw [List.getElem?_append_right (by simp [hx]; omega)] at hyj'
   simp only [List.length_append, List.length_map, Array.length_toList] at hxj hyj'
   rw [hx] at hyj'
   exact h2 _ x y hxj (by simpa using hyj')
theorem Runs.not_defer {ρ : Operand -> Value} {o : Oper} {y : Value} (h : Runs P ρ o w y w') : ∀ c, o.op ≠ .defer c := by
 intro c hc
 unfold Runs execOp at h
 rw [hc] at h
 simp only [Sem.run_bind] at h
 cases hr : (resolve ρ c o.type).run P w with
 | ok d w1 => rw [hr] at h; simp at h
 | halt x w1 => rw [hr] at h; simp at h
theorem KE (o : Oper) (a : Act) (rd : Option Nat) : ∀ f, o.about P w a.eval = some f -> (XT rd).fn f := λ _ _ => trivial
theorem StepO.sound {mt : Bool} {ops : Array Oper} {r : Nat} {σ : AState} {o : Oper} {val : AVal} {upd : List (Nat × HCell)} {touch : List Nat} (h : StepO P mt ops r σ o val upd touch)
  {c : Ctx} {a : Act} (hR : Rel c B ι σ a w) (hdst : ∀ d, o.dst = some d -> d < c.n) {K : Act -> World -> Prop} {Q : Exit -> Act -> World -> Prop}
  (hK : ∀ B' ι' a' w', Rel c B' ι' (σ.app o.dst val upd) a' w' -> K a' w') :
  if Region.wanted o (yielded ops a.tmps) then o.wpIn (XT c.rd) 0 P a w K Q else (∀ f, o.about P w a.eval = some f -> (XT c.rd).fn f) /\ K (a.put o.dst undef) w := by
 have plain : ∀ {v : AVal} {u : List (Nat × HCell)} {y : Value} {w' : World}, Runs P a.eval o w y w' -> GV B ι σ.H w (CF σ.H u) v y w' -> (∀ B' ι' a' w', Rel c B' ι' (σ.app o.dst v u) a' w' -> K a' w') -> o.wpIn (XT c.rd) 0 P a w K Q := λ hrun hd hK => by
  obtain ⟨B', ι', hR'⟩ := hR.app hd hdst
  refine ⟨KE o a _, ?_⟩
  rw [Oper.semAt_eq _ _ _ hrun.not_defer]
  rcases hrun with hrun | ⟨hrun, rfl⟩
  ·rw [hrun]; exact hK B' ι' _ _ hR'
  ·rw [hrun]; exact hK B' ι' _ _ hR'
 have called : ∀ {f : Operand} {args : Array Operand} {ats : Array TypeId} {g : FuncId} {first caps : List AVal} {ρA : Operand -> AVal} {v0 v : AVal} {u : List (Nat × HCell)}, o.op = .call ⟨.value f, args, ats⟩ ->
   VRel B ι σ.H.dom (.fn (.func g) first caps) (a.eval f) -> (∀ x, x ∈ args -> VRel B ι σ.H.dom (ρA x) (a.eval x)) -> Sl P g (first ++ args.toList.map ρA ++ caps) σ.H v0 u ->
   (∀ y w', GV B ι σ.H w (CF σ.H u) v0 y w' -> GV B ι σ.H w (CF σ.H u) v y w') -> (∀ B' ι' a' w', Rel c B' ι' (σ.app o.dst v u) a' w' -> K a' w') -> o.wpIn (XT c.rd) 0 P a w K Q := λ {f args ats g first caps ρA v0 v u} ho hf hargs hc hval hK => by
  obtain ⟨he, hcall⟩ := hc
  obtain ⟨xs, ys, hfe, hA⟩ := My hf hargs
  have hrun : (execOp a.eval o).run P w = .ok (.enter g (xs ++ args.map a.eval ++ ys)) w := by
   simp only [execOp, ho, resolve, hfe, Deferred.ofValue, invoke, Sem.run_bind, Sem.run_pure, Result.andThen_ok]
   exact he _ w
  refine ⟨KE o a _, ?_⟩
  rw [Oper.semAt_eq _ _ _ (by rw [ho]; exact λ _ h => by cases h), hrun]
  rw [Oper.uponIn_enter]
  have h0 : CallsIn (XT c.rd) (0 - 1) P g (xs ++ args.map a.eval ++ ys) w λ e w' => ∃ v, e = .returned v /\ GV B ι σ.H w (CF σ.H u) v0 v w' := callsIn_wide.2 (hcall B ι w _ hA hR.mv.heap)
  refine ⟨(λ h => by cases h), CallsIn.mono h0 λ e w' hh => ?_⟩
  obtain ⟨v, rfl, hd⟩ := hh
  obtain ⟨B', ι', hR'⟩ := hR.app (hval _ _ hd) hdst
  exact hK B' ι' _ _ hR'
 have skip : ∀ {v : AVal}, (∀ B' ι' a' w', Rel c B' ι' (σ.app o.dst (.opt false v) []) a' w' -> K a' w') -> K (a.put o.dst undef) w := λ hK => by
  obtain ⟨B', ι', h⟩ := hR.app (dst := o.dst) (v := .opt false _) (y := undef) (u := []) ⟨B, ι, Moved.refl hR.mv.heap, .opt (λ h => by cases h) (λ _ => rfl)⟩ hdst
  exact hK B' ι' _ _ h
 have toOpt : ∀ {v : AVal} {u : List (Nat × HCell)} {y : Value} {w' : World}, GV B ι σ.H w (CF σ.H u) v y w' -> GV B ι σ.H w (CF σ.H u) (.opt true v) y w' := λ ⟨B', ι', hm, hv⟩ => ⟨B', ι', hm, .opt (λ _ => hv) (λ h => by cases h)⟩
 cases h with
 | op hg h hp hr =>
  simp only [Region.wanted, hg, if_true]
  obtain ⟨y, w', hrun, hd⟩ := Ce (ρ := a.eval) h hp (λ x => GP hR.slots x) (λ _ => rfl) hr hR.mv.heap
  exact plain hrun hd hK
 | gop hg hw h hp hr =>
  rename_i j want g v p
  rw [VA hg hw hR.slots]
  cases g with
  | false => simpa using ⟨KE o a _, skip hK⟩
  | true =>
   simp only [if_true]
   obtain ⟨y, w', hrun, hd⟩ := Hz (ρ := a.eval) h hp (λ x => GP hR.slots x) (λ _ => rfl) hr hR.mv.heap
   exact plain (u := []) hrun (toOpt (u := []) hd) hK
 | call hg ho hf hc hcells hr =>
  simp only [Region.wanted, hg, if_true]
  rename_i f args ats g first caps cells
  have hfv := GP hR.slots f
  rw [hf] at hfv
  exact called ho hfv (λ x _ => GP hR.slots x) (hc σ.H hcells hr) (λ _ _ h => h) hK
 | gcall hg hw ho hf htags hc hcells hr =>
  rename_i j want gd f args ats g first caps cells v
  rw [VA hg hw hR.slots]
  cases gd with
  | false => simpa using ⟨KE o a _, skip hK⟩
  | true =>
   simp only [if_true]
   have ht := QN (htags rfl)
   have hfv := GR trivial (ht f (by rw [ho]; simp [Op.operands, Call.operands])) (GP hR.slots f)
   rw [hf] at hfv
   exact called (ρA := λ x => BI (AW σ.sl x)) ho hfv (λ x hx => GR trivial (ht x (by rw [ho]; simp [Op.operands, Call.operands]; exact .inr hx)) (GP hR.slots x)) (hc rfl σ.H hcells hr) (λ _ _ h => toOpt h) hK
def Qh (P : Program) (mt : Bool) (ops : Array Oper) (base n : Nat) (Q : AState -> Prop) : List Oper -> Nat -> AState -> Prop
 | [], _, σ => Q σ
 | o :: l, k, σ => ∃ val upd touch, StepO P mt ops (base + 16 * k) σ o val upd touch /\ (∀ d, o.dst = some d -> d < n) /\ Qh P mt ops base n Q l (k + 1) (σ.app o.dst val upd)
def CodeE (P : Program) (c : Ctx) (code : Code) (Q : Exit -> AState -> Prop) (σ : AState) : Prop :=
 ∀ B ι a w, Rel c B ι σ a w -> code.wpIn (XT c.rd) 0 P (λ e a' w' => ∃ B' ι' σ', Q e σ' /\ Rel c B' ι' σ' a' w') a w
theorem CodeE.mono {c : Ctx} {code : Code} {Q Q' : Exit -> AState -> Prop} {σ : AState} (h : CodeE P c code Q σ) (hq : ∀ e σ, Q e σ -> Q' e σ) : CodeE P c code Q' σ :=
 λ B ι a w hR => wpIn_mono (h B ι a w hR) λ _ _ _ ⟨B', ι', σ', hQ, hR'⟩ => ⟨B', ι', σ', hq _ _ hQ, hR'⟩
theorem Om {mt : Bool} {ops : Array Oper} {base : Nat} {c : Ctx} {Q : Exit -> AState -> Prop} : ∀ (l : List Oper) (k : Nat) (σ : AState), Qh P mt ops base c.n (Q .normal) l k σ -> ∀ B ι a w, Rel c B ι σ a w ->
  wpListIn (XT c.rd) 0 P ops (λ e a' w' => ∃ B' ι' σ', Q e σ' /\ Rel c B' ι' σ' a' w') l a w
 | [], _, σ, h, B, ι, _, _, hR => ⟨B, ι, σ, h, hR⟩
 | o :: l, k, σ, h, B, ι, a, w, hR => by
  obtain ⟨val, upd, touch, hs, hd, hl⟩ := h
  exact hs.sound hR hd (λ B' ι' a' w' hR' => Om l (k + 1) _ hl B' ι' a' w' hR')
theorem Ht {mt : Bool} {id : Nat} {ops : Array Oper} {base : Nat} {c : Ctx} {Q : Exit -> AState -> Prop} {σ : AState} (h : Qh P mt ops base c.n (Q .normal) ops.toList 0 σ) : CodeE P c (.region id ops false) Q σ :=
 λ B ι a w hR => wpIn_region_list (Om ops.toList 0 σ h B ι a w hR)
end Go.Sym

namespace Go.Sym
variable {P : Program} {B B' : Imm} {ι ι' : Nat -> Pl} {H H' : Heap} {D : Nat -> Prop} {w w' : World}
theorem Hm {ops : Array Oper} {sl sl' : Nat -> AVal} {o : Oper} (h : ∀ t ∈ o.looksAt ops, sl' t = sl t) (x : Operand) (hx : x ∈ o.op.operands) : AW sl' x = AW sl x := by
 cases x with
 | tmp t => exact h t (List.mem_append_left _ (List.mem_filterMap.2 ⟨.tmp t, by simpa using hx, rfl⟩))
 | _ => rfl
theorem TP {ops : Array Oper} {sl sl' : Nat -> AVal} {o : Oper} {j : Nat} {want : Bool} (hg : o.guard = some (j, want)) (h : ∀ t ∈ o.looksAt ops, sl' t = sl t) : CR ops sl' j want = CR ops sl j want := by
 unfold CR
 cases ht : (ops[j]?).bind (·.dst) with
 | none => rfl
 | some t => simp only; rw [h t (by simp [Oper.looksAt, hg, ht])]
theorem UT {ρ ρ' : Operand -> AVal} {l : List Operand} (h : ∀ x ∈ l, ρ x = ρ' x) : HA ρ l = HA ρ' l := by
 unfold HA
 induction l with
 | nil => rfl
 | cons x l ih => rw [List.flatMap_cons, List.flatMap_cons, h x (by simp), ih λ y hy => h y (by simp [hy])]
theorem Jc {r : Nat} {ρ ρ' : Operand -> AVal} {H H' : Heap} {g : Bool} (op : Op) (h : ∀ x ∈ op.operands, ρ x = ρ' x) (hH : ∀ id ∈ LE (λ x => BI (ρ x)) op, H id = H' id) : Bw P r ρ H g op = Bw P r ρ' H' g op := by
 have hs : ∀ x ∈ op.operands, (λ x => BI (ρ x)) x = (λ x => BI (ρ' x)) x := λ x hx => by simp only [h x hx]
 have ho := VN (P := P) (mt := false) (r := r) op hs hH
 have ht : HA ρ op.operands.toList = HA ρ' op.operands.toList := UT λ x hx => h x (by simpa using hx)
 unfold Bw
 split
 ·rename_i c a b
  rw [h c (by simp [Op.operands]), h a (by simp [Op.operands]), h b (by simp [Op.operands])]
 ·rename_i t len ps
  have : (ps.toList.map λ p => (p.1, BI (ρ p.2))) = (ps.toList.map λ p => (p.1, BI (ρ' p.2))) := List.map_congr_left λ p hm => by
   rw [h p.2 (by simp [Op.operands]; exact ⟨p.1, by simpa using hm⟩)]
  rw [this, ht]
 ·rw [ho, ht]
theorem StepO.local' {mt : Bool} {ops : Array Oper} {r : Nat} {σ σ' : AState} {o : Oper} {val : AVal} {upd : List (Nat × HCell)} {touch : List Nat} (h : StepO P mt ops r σ o val upd touch)
  (hs : ∀ t ∈ o.looksAt ops, σ'.sl t = σ.sl t) (hH : ∀ id ∈ touch, σ'.H id = σ.H id) : StepO P mt ops r σ' o val upd touch := by
 have hev : ∀ x ∈ o.op.operands, AW σ.sl x = AW σ'.sl x := λ x hx => (Hm hs x hx).symm
 cases h with
 | op hg h hp hr =>
  rw [TX o.op hev]
  refine .op hg ?_ hp (by rw [hH r (by simp)]; exact hr)
  rw [<- h]
  exact (VN o.op hev λ id hid => (hH id (by simp [hid])).symm).symm
 | gop hg hw h hp hr =>
  have hev' : ∀ x ∈ o.op.operands, (λ x => BI (AW σ.sl x)) x = (λ x => BI (AW σ'.sl x)) x := λ x hx => by simp only [hev x hx]
  rw [TX o.op hev']
  refine .gop hg (by rw [TP hg hs]; exact hw) ?_ hp (by rw [hH r (by simp)]; exact hr)
  rw [<- h]
  exact (Jc o.op hev λ id hid => (hH id (by simp [hid])).symm).symm
 | call hg ho hf hc hcells hr =>
  rename_i f args ats g first caps cells
  have hargs : args.toList.map (AW σ'.sl) = args.toList.map (AW σ.sl) := List.map_congr_left λ x hx => (hev x (by rw [ho]; simp [Op.operands, Call.operands]; right; simpa using hx)).symm
  refine .call hg ho (by rw [<- hev f (by rw [ho]; simp [Op.operands, Call.operands])]; exact hf) (by rw [hargs]; exact hc)
   (λ p hp => by rw [hH p.1 (by simp; exact .inl ⟨p.2, hp⟩)]; exact hcells p hp) (λ i h1 h2 => by rw [hH i (by simp; right; exact ⟨i - r, by omega, by omega⟩)]; exact hr i h1 h2)
 | gcall hg hw ho hf ht hc hcells hr =>
  rename_i j want gd f args ats g first caps cells v
  have hargs : args.toList.map (λ x => BI (AW σ'.sl x)) = args.toList.map (λ x => BI (AW σ.sl x)) := List.map_congr_left λ x hx => by simp only [hev x (by rw [ho]; simp [Op.operands, Call.operands]; right; simpa using hx)]
  refine .gcall hg (by rw [TP hg hs]; exact hw) ho (by rw [<- hev f (by rw [ho]; simp [Op.operands, Call.operands])]; exact hf)
   (λ h => by rw [<- UT (ρ := AW σ.sl) λ x hx => hev x (by simpa using hx)]; exact ht h) (λ h => by rw [hargs]; exact hc h)
   (λ p hp => by rw [hH p.1 (by simp; exact .inl ⟨p.2, hp⟩)]; exact hcells p hp) (λ i h1 h2 => by rw [hH i (by simp; right; exact ⟨i - r, by omega, by omega⟩)]; exact hr i h1 h2)
end Go.Sym

namespace Go.Sym
variable {P : Program} {B B' : Imm} {ι ι' : Nat -> Pl} {H H' : Heap} {D : Nat -> Prop} {w w' : World}
abbrev Table := Nat -> List Nat × List Nat
section
variable {mt : Bool} {ops : Array Oper} {base n : Nat} {T : Table} {md : Region.Mode}
def StepT (P : Program) (mt : Bool) (ops : Array Oper) (base n : Nat) (T : Table) (i : Nat) (K : AState -> Prop) (σ : AState) : Prop :=
 ∃ o val upd touch, ops[i]? = some o /\ StepO P mt ops (base + 16 * i) σ o val upd touch /\ (∀ d, o.dst = some d -> d < n) /\ touch = (T i).1 /\ upd.map (·.1) = (T i).2 /\ K (σ.app o.dst val upd)
theorem StepT.mono {i : Nat} {K K' : AState -> Prop} {σ : AState} (hK : ∀ σ, K σ -> K' σ) (h : StepT P mt ops base n T i K σ) : StepT P mt ops base n T i K' σ := by
 obtain ⟨o, val, upd, touch, h1, h2, h3, h4, h5, h6⟩ := h
 exact ⟨o, val, upd, touch, h1, h2, h3, h4, h5, hK _ h6⟩
def Ov (P : Program) (mt : Bool) (md : Region.Mode) (ops : Array Oper) (base n : Nat) (T : Table) (Q : AState -> Prop) : Nat -> Array Bool -> AState -> Prop
 | 0, listed, σ => Region.ready md ops listed = [] /\ Q σ
 | fuel + 1, listed, σ => (Region.ready md ops listed = [] -> Q σ) /\ ∀ i ∈ Region.ready md ops listed, StepT P mt ops base n T i (Ov P mt md ops base n T Q fuel (listed.setIfInBounds i true)) σ
theorem Pa {c : Ctx} {Q : Exit -> AState -> Prop} : ∀ (fuel : Nat) (listed : Array Bool) (σ : AState), Ov P mt md ops base c.n T (Q .normal) fuel listed σ -> ∀ B ι a w, Rel c B ι σ a w ->
  wpAnyIn (XT c.rd) 0 P md ops (λ e a' w' => ∃ B' ι' σ', Q e σ' /\ Rel c B' ι' σ' a' w') fuel listed a w
 | 0, _, σ, h, B, ι, _, _, hR => ⟨h.1, B, ι, σ, h.2, hR⟩
 | fuel + 1, listed, σ, h, B, ι, a, w, hR => by
  refine ⟨λ h0 => ⟨B, ι, σ, h.1 h0, hR⟩, λ i hi => ?_⟩
  obtain ⟨o, val, upd, touch, h1, h2, h3, _, _, h6⟩ := h.2 i hi
  unfold wpOpIn
  rw [h1]
  exact h2.sound hR h3 λ B' ι' a' w' hR' => Pa fuel _ _ h6 B' ι' a' w' hR'
def Ox (a b : List Nat) : Bool := a.all λ x => !b.contains x
theorem VK {a b : List Nat} (h : Ox a b = true) : ∀ x, x ∈ a -> x ∉ b := by
 intro x hx hb
 simp only [Ox, List.all_eq_true, Bool.not_eq_true'] at h
 have := h x hx
 simp [hb] at this
def Cz (T : Table) (i j : Nat) : Bool := Ox (T i).2 (T j).1 && Ox (T j).2 (T i).1 && Ox (T i).2 (T j).2
theorem HO : ∀ (u : List (Nat × HCell)) (H : Heap) (x : Nat), x ∉ u.map (·.1) -> CF H u x = H x
 | [], _, _, _ => rfl
 | (i, c) :: u, H, x, h => by
  simp only [List.map_cons, List.mem_cons, not_or] at h
  simp only [CF]
  rw [HO u _ x h.2, CT _ _ h.1]
theorem Ln (H : Heap) {i j : Nat} (a b : HCell) (h : i ≠ j) : BX (BX H i a) j b = BX (BX H j b) i a := by
 funext x; unfold BX; split <;> split <;> first | rfl | (exfalso; omega)
theorem Fx : ∀ (u : List (Nat × HCell)) (H : Heap) (i : Nat) (c : HCell), i ∉ u.map (·.1) -> CF (BX H i c) u = BX (CF H u) i c
 | [], _, _, _, _ => rfl
 | (j, d) :: u, H, i, c, h => by
  simp only [List.map_cons, List.mem_cons, not_or] at h
  simp only [CF]
  rw [Ln _ _ _ h.1, Fx u _ i c h.2]
theorem Df : ∀ (u v : List (Nat × HCell)) (H : Heap), (∀ x, x ∈ u.map (·.1) -> x ∉ v.map (·.1)) -> CF (CF H u) v = CF (CF H v) u
 | [], _, _, _ => rfl
 | (i, c) :: u, v, H, h => by
  simp only [CF]
  rw [Df u v _ λ x hx => h x (by simp at hx ⊢; exact .inr hx), Fx v H i c (h i (by simp))]
theorem Ol {σ : AState} {d1 d2 : Option Tmp} {v1 v2 : AVal} {u1 u2 : List (Nat × HCell)} (hd : ∀ d, d1 = some d -> d2 ≠ some d) (hu : ∀ x, x ∈ u1.map (·.1) -> x ∉ u2.map (·.1)) :
  (σ.app d1 v1 u1).app d2 v2 u2 = (σ.app d2 v2 u2).app d1 v1 u1 := by
 simp only [AState.app, AState.mk.injEq]
 refine ⟨?_, Df u1 u2 σ.H hu⟩
 cases d1 with
 | none => rfl
 | some a => cases d2 with
  | none => rfl
  | some b =>
   have : a ≠ b := λ e => hd a rfl (e ▸ rfl)
   funext t
   simp only [MG]
   by_cases h1 : t = a
   ·have h2 : t ≠ b := λ e => this (h1.symm.trans e)
    rw [if_neg h2, if_pos h1, if_pos h1]
   ·rw [if_neg h1, if_neg h1]
theorem StepT.swap {i j : Nat} {oi oj : Oper} (hoj : ops[j]? = some oj) (hap : oi.apart ops oj = true) (hin : Cz T i j = true) {σ : AState} {vi : AVal} {ui : List (Nat × HCell)} {ti : List Nat}
  (hi : StepO P mt ops (base + 16 * i) σ oi vi ui ti) (hti : ti = (T i).1) (hui : ui.map (·.1) = (T i).2) {K : AState -> Prop} (h : StepT P mt ops base n T j K (σ.app oi.dst vi ui)) :
  StepT P mt ops base n T j (λ σ' => StepO P mt ops (base + 16 * i) σ' oi vi ui ti /\ K (σ'.app oi.dst vi ui)) σ := by
 obtain ⟨o, val, upd, touch, h1, h2, h3, h4, h5, h6⟩ := h
 rw [hoj] at h1; cases h1
 obtain ⟨a1, a2, a3⟩ := Oper.apart_spec hap
 simp only [Cz, Bool.and_eq_true] at hin
 obtain ⟨⟨d1, d2⟩, d3⟩ := hin
 have d1 := VK d1; have d2 := VK d2; have d3 := VK d3
 have put_ne : ∀ (sl : Nat -> AVal) (dst : Option Tmp) (v : AVal) (t : Tmp), (∀ d, dst = some d -> t ≠ d) -> MG sl dst v t = sl t := λ sl dst v t h => by
  cases dst with
  | none => rfl
  | some d => simp [MG, h d rfl]
 refine ⟨oj, val, upd, touch, hoj, h2.local' (λ t ht => ?_) (λ id hid => ?_), h3, h4, h5, ?_, ?_⟩
 ·exact (put_ne _ _ _ _ λ d hd e => a1 d hd (e ▸ ht)).symm
 ·exact (HO _ _ _ λ hm => d1 id (hui ▸ hm) (h4 ▸ hid)).symm
 ·refine hi.local' (λ t ht => ?_) (λ id hid => ?_)
  ·exact put_ne _ _ _ _ λ d hd e => a3 d hd (e ▸ ht)
  ·exact HO _ _ _ λ hm => d2 id (h5 ▸ hm) (hti ▸ hid)
 ·rw [<- Ol a2 (λ x hx => by rw [hui] at hx; rw [h5]; exact d3 x hx)]
  exact h6
theorem Mm {Q : AState -> Prop} {i : Nat} {oi : Oper} (hoi : ops[i]? = some oi) {vi : AVal} {ui : List (Nat × HCell)} {ti : List Nat} (hti : ti = (T i).1) (hui : ui.map (·.1) = (T i).2) (hdi : ∀ d, oi.dst = some d -> d < n) :
  ∀ (fuel : Nat) (listed : Array Bool) (σ : AState),
   (∀ j oj, ops[j]? = some oj -> j ≠ i -> listed.getD j true = false -> (∀ e ∈ oj.after, Region.binds md e = true -> e.on ≠ i) -> oi.apart ops oj = true /\ Cz T i j = true) ->
   i ∈ Region.ready md ops listed -> StepO P mt ops (base + 16 * i) σ oi vi ui ti ->
   Ov P mt md ops base n T Q fuel (listed.setIfInBounds i true) (σ.app oi.dst vi ui) -> Ov P mt md ops base n T Q (fuel + 1) listed σ := by
 intro fuel
 induction fuel with
 | zero =>
  intro listed σ _ hr hy h
  refine ⟨λ h0 => (by rw [h0] at hr; cases hr), λ j hj => ?_⟩
  by_cases hji : j = i
  ·subst hji; exact ⟨oi, vi, ui, ti, hoi, hy, hdi, hti, hui, h⟩
  ·have := ready_mono hj hji
   rw [h.1] at this
   cases this
 | succ fuel ih =>
  intro listed σ hfree hr hy h
  refine ⟨λ h0 => (by rw [h0] at hr; cases hr), λ j hj => ?_⟩
  by_cases hji : j = i
  ·subst hji; exact ⟨oi, vi, ui, ti, hoi, hy, hdi, hti, hui, h⟩
  ·have h1 := h.2 j (ready_mono hj hji)
   obtain ⟨hjun, oj, hoj, hall⟩ := mem_ready.1 hj
   have hnot : ∀ e ∈ oj.after, Region.binds md e = true -> e.on ≠ i := λ e he hb heq => by
    have h1 := hall e he hb
    have h0 := (mem_ready.1 hr).1
    rw [heq] at h1
    rcases Nat.lt_or_ge i listed.size with h' | h'
    ·simp [h'] at h0 h1; rw [h0] at h1; cases h1
    ·simp [Array.getElem?_eq_none h'] at h1
   obtain ⟨f1, f2⟩ := hfree j oj hoj hji hjun hnot
   have h2 := StepT.swap hoj f1 f2 hy hti hui h1
   have hfree' : ∀ k ok, ops[k]? = some ok -> k ≠ i -> (listed.setIfInBounds j true).getD k true = false -> (∀ e ∈ ok.after, Region.binds md e = true -> e.on ≠ i) -> oi.apart ops ok = true /\ Cz T i k = true := λ k ok hk hki hun hno => by
    refine hfree k ok hk hki ?_ hno
    by_cases hjk : j = k
    ·subst hjk; exact hjun
    ·rw [getD_set_ne true hjk] at hun; exact hun
   refine StepT.mono (λ σ' h3 => ih (listed.setIfInBounds j true) σ' hfree' (ready_mono hr (Ne.symm hji)) h3.1 ?_) h2
   rw [Array.setIfInBounds_comm _ _ hji]
   exact h3.2
def Oa (md : Region.Mode) (ops : Array Oper) (T : Table) (listed : Array Bool) (i : Nat) : Bool :=
 match ops[i]? with
 | none => false
 | some oi => (List.range ops.size).all λ j => j == i || listed.getD j true || match ops[j]? with
   | some oj => oj.after.any (λ e => Region.binds md e && e.on == i) || (oi.apart ops oj && Cz T i j)
   | none => true
theorem Iu {i : Nat} {oi : Oper} {listed : Array Bool} (hi : ops[i]? = some oi) (h : Oa md ops T listed i = true) (j : Nat) (oj : Oper)
  (hj : ops[j]? = some oj) (hne : j ≠ i) (hun : listed.getD j true = false) (hno : ∀ e ∈ oj.after, Region.binds md e = true -> e.on ≠ i) : oi.apart ops oj = true /\ Cz T i j = true := by
 simp only [Oa, hi, List.all_eq_true, List.mem_range] at h
 have h1 := h j (Array.getElem?_eq_some_iff.1 hj).1
 simp only [hj, Bool.or_eq_true, beq_iff_eq, hne, false_or, hun, Bool.false_eq_true, Bool.and_eq_true] at h1
 rcases h1 with h1 | h1
 ·obtain ⟨e, he, hb⟩ := Array.any_eq_true'.1 h1
  simp only [Bool.and_eq_true, beq_iff_eq] at hb
  exact absurd hb.2 (hno e he hb.1)
 ·exact h1
def lexFromT (md : Region.Mode) (ops : Array Oper) (T : Table) : Nat -> Nat -> Array Bool -> Bool
 | 0, _, listed => (Region.ready md ops listed).isEmpty
 | fuel + 1, k, listed => (Region.ready md ops listed).contains k && Oa md ops T listed k && lexFromT md ops T fuel (k + 1) (listed.setIfInBounds k true)
def On (P : Program) (mt : Bool) (ops : Array Oper) (base n : Nat) (T : Table) (Q : AState -> Prop) : List Oper -> Nat -> AState -> Prop
 | [], _, σ => Q σ
 | o :: l, k, σ => ∃ val upd touch, StepO P mt ops (base + 16 * k) σ o val upd touch /\ (∀ d, o.dst = some d -> d < n) /\ touch = (T k).1 /\ upd.map (·.1) = (T k).2 /\ On P mt ops base n T Q l (k + 1) (σ.app o.dst val upd)
theorem Ko {Q : AState -> Prop} : ∀ (l : List Oper) (k : Nat) (listed : Array Bool) (σ : AState), (∀ j, l[j]? = ops[k + j]?) -> lexFromT md ops T l.length k listed = true -> On P mt ops base n T Q l k σ ->
  Ov P mt md ops base n T Q l.length listed σ
 | [], _, _, _, _, hB, h => ⟨by simpa [lexFromT] using hB, h⟩
 | o :: l, k, listed, σ, hl, hB, h => by
  have h0 : ops[k]? = some o := by simpa using (hl 0).symm
  simp only [List.length_cons, lexFromT, Bool.and_eq_true] at hB
  obtain ⟨⟨hr, hf⟩, hB'⟩ := hB
  obtain ⟨val, upd, touch, h1, h2, h3, h4, h5⟩ := h
  exact Mm h0 h3 h4 h2 l.length listed σ (Iu h0 hf) (by simpa using hr) h1
   (Ko l (k + 1) _ _ (λ j => by have := hl (j + 1); simpa [Nat.add_assoc, Nat.add_comm 1 j] using this) hB' h5)
theorem Ga {id : Nat} {c : Ctx} {Q : Exit -> AState -> Prop} {σ : AState} (hm : P.follows .mixedOrders = true) (hB : lexFromT .any ops T ops.size 0 (Array.replicate ops.size false) = true)
  (h : On P mt ops base c.n T (Q .normal) ops.toList 0 σ) : CodeE P c (.region id ops true) Q σ := by
 intro B ι a w hR
 refine wpIn_region_any hm ?_
 have hl := Ko (md := .any) ops.toList 0 (Array.replicate ops.size false) σ (by simp) (by simpa using hB) h
 have hR' : Rel c B ι σ a { w with drawn := w.drawn + 1 } := ⟨hR.slots, hR.size, let ⟨Ds, h1, h0, h2, h3⟩ := hR.defers; ⟨Ds, h1, h0, h2, λ D hD => ⟨(h3 D hD).1, (h3 D hD).2.moved (Moved.drew hR.mv.heap _)⟩⟩, hR.mv.trans (Moved.drew hR.mv.heap _)⟩
 have := Pa (Q := Q) ops.toList.length _ σ hl B ι a _ hR'
 simpa using this
end
end Go.Sym

namespace Go.Sym
variable {P : Program} {B B' : Imm} {ι ι' : Nat -> Pl} {H H' : Heap} {D : Nat -> Prop} {w w' : World} {c : Ctx} {σ : AState} {Q : Exit -> AState -> Prop}
def TZ (K : AState -> Prop) (Q : Exit -> AState -> Prop) : Exit -> AState -> Prop
 | .normal, σ => K σ
 | e, σ => Q e σ
def Jd (id : Nat) (Q : Exit -> AState -> Prop) : Exit -> AState -> Prop
 | .exit id', σ => if id' = id then Q .normal σ else Q (.exit id') σ
 | e, σ => Q e σ
theorem CodeE.seq {x y : Code} (h : CodeE P c x (TZ (CodeE P c y Q) Q) σ) : CodeE P c (.seq x y) Q σ := by
 intro B ι a w hR
 refine wpIn_seq (Code.wpIn_mono (λ e a w hq => ?_) (h B ι a w hR))
 obtain ⟨B', ι', σ', hq, hR'⟩ := hq
 cases e with
 | normal => exact hq B' ι' a w hR'
 | _ => exact ⟨B', ι', σ', hq, hR'⟩
theorem CodeE.skip (h : Q .normal σ) : CodeE P c .skip Q σ := λ B ι _ _ hR => wpIn_skip ⟨B, ι, σ, h, hR⟩
theorem CodeE.label {l : Nat} (h : Q .normal σ) : CodeE P c (.label l) Q σ := λ B ι _ _ hR => wpIn_label ⟨B, ι, σ, h, hR⟩
theorem CodeE.exit {id : Nat} (h : Q (.exit id) σ) : CodeE P c (.exit id) Q σ := λ B ι _ _ hR => wpIn_exit ⟨B, ι, σ, h, hR⟩
theorem CodeE.ret (h : Q .ret σ) : CodeE P c .ret Q σ := λ B ι _ _ hR => wpIn_ret ⟨B, ι, σ, h, hR⟩
theorem CodeE.cond {x : Operand} {t e : Code} {b : Bool} (hx : AW σ.sl x = .bool b) (ht : b = true -> CodeE P c t Q σ) (he : b = false -> CodeE P c e Q σ) : CodeE P c (.cond x t e) Q σ := by
 intro B ι a w hR
 have hv := GP hR.slots x
 rw [hx] at hv
 exact wpIn_cond_split hv.d_inv.v_inv (λ h => ht h B ι a w hR) (λ h => he h B ι a w hR)
theorem CodeE.block {id : Nat} {x : Code} (h : CodeE P c x (Jd id Q) σ) : CodeE P c (.block id x) Q σ := by
 intro B ι a w hR
 refine wpIn_block (Code.wpIn_mono (λ e a w hq => ?_) (h B ι a w hR))
 obtain ⟨B', ι', σ', hq, hR'⟩ := hq
 cases e with
 | exit id' =>
  simp only [Jd] at hq
  simp only [Exit.inBlock]
  split
  ·rename_i he; rw [if_pos he] at hq; exact ⟨B', ι', σ', hq, hR'⟩
  ·rename_i he; rw [if_neg he] at hq; exact ⟨B', ι', σ', hq, hR'⟩
 | _ => exact ⟨B', ι', σ', hq, hR'⟩
theorem CodeE.loop {x : Code} (I : Nat -> AState -> Prop) (n : Nat) (h0 : I n σ) (round : ∀ n σ, I n σ -> CodeE P c x (TZ (λ σ' => ∃ k, k < n /\ I k σ') Q) σ) : CodeE P c (.loop x) Q σ := by
 intro B ι a w hR
 refine wpIn_loop_ghost (λ n a w => ∃ B ι σ, I n σ /\ Rel c B ι σ a w) n ⟨B, ι, σ, h0, hR⟩ ?_
 rintro n a w ⟨B, ι, σ, hI, hR⟩
 refine Code.wpIn_mono (λ e a w hq => ?_) (round n σ hI B ι a w hR)
 obtain ⟨B', ι', σ', hq, hR'⟩ := hq
 cases e with
 | normal => obtain ⟨k, hk, hI⟩ := hq; exact ⟨k, hk, B', ι', σ', hI, hR'⟩
 | _ => exact ⟨B', ι', σ', hq, hR'⟩
theorem HS {b : Frame} {a : Act} {k : List Item} {cs : List Frame} {x : Code} : step P (lone (b.atR a (.code (.scope x) :: k)) cs w) = .next (lone (b.atR a (.code x :: .inScope x :: k)) cs w) :=
 step_lone_go (by simp [stepG, stepG.exec, Frame.atR])
theorem Ca {b : Frame} {a : Act} {k : List Item} {cs : List Frame} {x : Code} : step P (lone (b.atR a (.inScope x :: k)) cs w) = .next (lone (b.atR a k) cs w) :=
 step_lone_go (by simp [stepG, stepG.exec, Frame.atR])
theorem RK {F : Fence} {n : Nat} {x : Code} {Q : Exit -> Act -> World -> Prop} {a : Act} (h : x.wpIn F n P (Exit.noGoto Q) a w) : (Code.scope x).wpIn F n P Q a w := by
 intro b k cs hro hb hr
 have h0 : (lone (b.atR a (.code (.scope x) :: k)) cs w).fenced P F := fenced_calm hb hr rfl
 obtain ⟨e, a₁, w₁, hq, harr⟩ := h b (.inScope x :: k) cs hro hb hr
 have hx : ∀ id, exitTo id (.inScope x :: k) = exitTo id k := λ id => by simp [exitTo]
 cases e with
 | normal => exact ⟨.normal, a₁, w₁, hq, .head h0 HS (StepsIn.trans harr (.one (fenced_calm hb hr rfl) Ca))⟩
 | exit id =>
  exact ⟨.exit id, a₁, w₁, hq, λ k' hk => .head h0 HS (harr.1 k' (by rw [hx]; exact hk)),
   λ hr' hk => let ⟨k₁, h1, h2⟩ := harr.2 hr' (by rw [hx]; exact hk); ⟨k₁, h1, .head h0 HS h2⟩⟩
 | goto l => exact hq.elim
 | ret => exact ⟨_, a₁, w₁, hq, .of_steps (.one h0 HS) harr⟩
 | panic ch => exact ⟨_, a₁, w₁, hq, .of_steps (.one h0 HS) harr⟩
 | outgrown => exact ⟨_, a₁, w₁, hq, .of_steps (.one h0 HS) harr⟩
def OL (H : Heap) : List (Nat × HCell) -> Prop
 | [] => True
 | (i, x) :: r => H i = x /\ OL H r
end Go.Sym

namespace Go.Sym
variable {P : Program} {B B' : Imm} {ι ι' : Nat -> Pl} {H H' : Heap} {D : Nat -> Prop} {w w' : World} {c : Ctx} {σ : AState} {Q : Exit -> AState -> Prop}
def FnT (P : Program) (g : FuncId) (as : List AVal) (H : Heap) (val : AVal) (keep : List (Nat × HCell)) : Prop :=
 Ex P g /\ ∀ (B : Imm) (ι : Nat -> Pl) (w : World) (vs : Array Value), KA B ι H.dom as vs -> HRel B ι H w ->
  Calls P g vs w λ e w' => ∃ v H', e = .returned v /\ OL H' keep /\ GV B ι H w H' val v w'
def resOne (P : Program) (σ : AState) : ResultVar -> Option (AVal × List Prop)
 | .tmp t => some (σ.sl t, [])
 | .cell a t => if isAddr (σ.sl a) then ZS P σ.H t (σ.sl a) else none
where
 isAddr : AVal -> Bool
  | .bptr .. | .rptr .. | .d (.eref ..) => true
  | _ => false
def VL (P : Program) (σ : AState) : List ResultVar -> Option (List AVal × List Prop)
 | [] => some ([], [])
 | r :: l => match resOne P σ r, VL P σ l with
  | some (a, p), some (as, q) => some (a :: as, p ++ q)
  | _, _ => none
def Ou (P : Program) (fn : Func) (σ : AState) (K : AVal -> Prop) : Prop := match VL P σ fn.results.toList with
 | some ([a], p) => BK p /\ K a
 | some (as, p) => BK p /\ K (Cj as)
 | none => False
theorem Og {a : AVal} {v : Value} (h : resOne.isAddr a = true) (hv : VRel B ι D a v) : ∃ b, v = .pointer (some b) := by
 cases hv with
 | bptr => exact ⟨_, rfl⟩
 | rptr => exact ⟨_, rfl⟩
 | d hd => cases hd <;> simp [resOne.isAddr] at h; exact ⟨_, rfl⟩
 | _ => simp [resOne.isAddr] at h
def Dr (tmps : Array Value) : ResultVar -> Sem Value
 | .tmp t => pure (tmps.getD t undef)
 | .cell x t => do loadVar t (<- asAddr (tmps.getD x undef))
theorem Ay (fn : Func) (tmps : Array Value) : results fn tmps = (do let vs <- fn.results.mapM (Dr tmps); pure (if h : vs.size = 1 then vs[0] else .tuple vs)) := rfl
theorem NF {a : Act} (hs : ∀ t, VRel B ι σ.H.dom (σ.sl t) (a.tmps.getD t undef)) (hH : HRel B ι σ.H w) : ∀ (l : List ResultVar) (as : List AVal) (p : List Prop), VL P σ l = some (as, p) -> BK p ->
  ∃ vs : List Value, (l.mapM (Dr a.tmps)).run P w = .ok vs w /\ vs.length = as.length /\
   ∀ (j : Nat) (x : AVal) (y : Value), as[j]? = some x -> vs[j]? = some y -> VRel B ι σ.H.dom x y
 | [], as, p, h, _ => by simp only [VL, Option.some.injEq, Prod.mk.injEq] at h; obtain ⟨rfl, _⟩ := h; exact ⟨[], by simp, rfl, λ j x y hx _ => by simp at hx⟩
 | r :: l, as, p, h, hp => by
  simp only [VL] at h
  split at h
  ·rename_i x p1 as' p2 h1 h2
   simp only [Option.some.injEq, Prod.mk.injEq] at h
   obtain ⟨rfl, rfl⟩ := h
   obtain ⟨vs, h3, h4, h5⟩ := NF hs hH l as' p2 h2 (AX hp).2
   obtain ⟨v, hv, hvr⟩ : ∃ v, (Dr a.tmps r).run P w = .ok v w /\ VRel B ι σ.H.dom x v := by
    cases r with
    | tmp t => simp only [resOne, Option.some.injEq, Prod.mk.injEq] at h1; obtain ⟨rfl, _⟩ := h1; exact ⟨_, rfl, hs t⟩
    | cell b t =>
     simp only [resOne] at h1
     split at h1
     ·rename_i hadd
      obtain ⟨y, hy, hr⟩ := WZ h1 (AX hp).1 (hs b) hH
      obtain ⟨ad, had⟩ := Og hadd (hs b)
      refine ⟨y, ?_, hr⟩
      show ((do loadVar t (<- asAddr (a.tmps.getD b undef)) : Sem Value)).run P w = _
      rw [had] at hy ⊢
      simpa [Instr.loadAt, Instr.sureAddr, asAddr] using hy
     ·cases h1
   refine ⟨v :: vs, by rw [List.mapM_cons]; simp only [Sem.run_bind, hv, h3, Result.andThen_ok, Sem.run_pure], by simp [h4], λ j x y hx hy => ?_⟩
   cases j with
   | zero => simp at hx hy; subst hx; subst hy; exact hvr
   | succ j => exact h5 j x y (by simpa using hx) (by simpa using hy)
  ·cases h
theorem By {fn : Func} {a : Act} {K : AVal -> Prop} (hs : ∀ t, VRel B ι σ.H.dom (σ.sl t) (a.tmps.getD t undef)) (hH : HRel B ι σ.H w) (h : Ou P fn σ K) :
  ∃ v val, (results fn a.tmps).run P w = .ok v w /\ K val /\ VRel B ι σ.H.dom val v := by
 have run : ∀ vs : List Value, (fn.results.toList.mapM (Dr a.tmps)).run P w = .ok vs w ->
   (results fn a.tmps).run P w = .ok (if h : vs.toArray.size = 1 then vs.toArray[0] else .tuple vs.toArray) w := λ vs h => by
  rw [Ay, Array.mapM_eq_mapM_toList]
  simp only [Sem.run_bind, Sem.run_map, h, Result.andThen_ok, Sem.run_pure]
 unfold Ou at h
 split at h
 ·rename_i x p hr
  obtain ⟨vs, h1, h2, h3⟩ := NF hs hH _ _ _ hr h.1
  obtain ⟨v, rfl⟩ : ∃ v, vs = [v] := by
   match vs, h2 with
   | [v], _ => exact ⟨v, rfl⟩
  exact ⟨v, x, by rw [run _ h1]; simp, h.2, h3 0 x v rfl rfl⟩
 ·rename_i as p hne hr
  obtain ⟨vs, h1, h2, h3⟩ := NF hs hH _ _ _ hr h.1
  refine ⟨.tuple vs.toArray, Cj as, ?_, h.2, Ch (by simpa using h2) λ j x y hx hy => h3 j x y hx (by simpa using hy)⟩
  rw [run _ h1, dif_neg]
  intro h1'
  have : as.length = 1 := by rw [<- h2]; simpa using h1'
  match as, this with
  | [x], _ => exact hne x rfl
 ·exact h.elim
def turn : List Nat -> World -> World
 | [], w => w
 | D :: r, w => turn r (w.putObj D (.deferred none))
theorem Kd {fn : Func} {tmps : Array Value} {R : Ending -> World -> Prop} : ∀ (Ds : List Nat) (w : World), Ds.Nodup -> (∀ D ∈ Ds, w.heap[D]? = some (.deferred (some []))) ->
  (∃ v, (results fn tmps).run P (turn Ds w) = .ok v (turn Ds w) /\ R (.returned v) (turn Ds w)) -> LeavesInM Fence.wide 0 P fn tmps R (Dl Ds) .returning w
 | [], w, _, _, h => h
 | D :: r, w, hn, hD, h => by
  refine ⟨by simp, .inl ⟨D, w.putObj D (.deferred none), rfl, run_takeDeferred (hD D (by simp)), Kd r _ (List.nodup_cons.1 hn).2 (λ E hE => ?_) h⟩⟩
  have hne : E ≠ D := λ he => (List.nodup_cons.1 hn).1 (he ▸ hE)
  rw [World.putObj_heap_other hne]
  exact hD E (by simp [hE])
theorem Bj : ∀ (Ds : List Nat) (w' : World), Ds.Nodup -> (∀ D ∈ Ds, w.heap.size <= D /\ Quiet D (.deferred (some [])) ι' H' w') -> Moved B ι H w B' ι' H' w' -> Moved B ι H w B' ι' H' (turn Ds w')
 | [], _, _, _, m => m
 | D :: r, w', hn, hD, m => by
  obtain ⟨h1, h2⟩ := hD D (by simp)
  refine Bj r _ (List.nodup_cons.1 hn).2 (λ E hE => ?_) (m.put h2 (λ _ _ _ h => by cases h) h1 _)
  obtain ⟨h3, h4⟩ := hD E (by simp [hE])
  exact ⟨h3, h4.put_other (λ he => (List.nodup_cons.1 hn).1 (he ▸ hE))⟩
theorem Fq {fn : Func} {a : Act} {K : AVal -> Prop} {R : Ending -> World -> Prop} (hR : Rel c B ι σ a w) (h : Ou P fn σ K)
  (hpost : ∀ w' v val, Moved c.B0 c.ι0 c.H0 c.w0 B ι σ.H w' -> K val -> VRel B ι σ.H.dom val v -> R (.returned v) w') : LeavesInM Fence.wide 0 P fn a.tmps R a.defers .returning w := by
 obtain ⟨Ds, h1, _, h2, h3⟩ := hR.defers
 rw [h1]
 have m := Bj Ds w h2 h3 hR.mv
 obtain ⟨v, val, h4, h5, h6⟩ := By hR.slots m.heap h
 exact Kd Ds w h2 (λ D hD => (h3 D hD).2.here) ⟨v, h4, hpost _ _ _ m h5 h6⟩
theorem Fd {f : FuncId} {fn : Func} {code : Code} {args : Array Value} {R : Ending -> World -> Prop} (hf : P.funcs[f]? = some fn) (hb : fn.body = some code)
  (h : code.wpIn (XT none) 0 P (bodyPostM Fence.wide 0 P fn R) { tmps := args ++ Array.replicate (fn.ntmps - args.size) undef, defers := [] } w) : Calls P f args w R :=
 callsIn_wide.1 (callsIn_of_wp_marks (F := Fence.wide) (n := 0) hf hb trivial h)
def TF (as : List AVal) : Nat -> AVal := λ t => as.getD t (.d (.v undef))
theorem Db {as : List AVal} {vs : Array Value} {n : Nat} {mk : Bool} (ha : KA B ι H.dom as vs) (hn : as.length <= n) (hH : HRel B ι H w) : Rel ⟨B, ι, H, w, n, none, mk⟩ B ι ⟨TF as, H⟩ { tmps := vs ++ Array.replicate (n - vs.size) undef, defers := [] } w := by
 refine ⟨λ t => ?_, ?_, ⟨[], rfl, λ _ => rfl, List.nodup_nil, λ D hD => by cases hD⟩, Moved.refl hH⟩
 ·simp only [TF]
  have hl := ha.1
  by_cases ht : t < as.length
  ·have := ha.2 t as[t] vs[t] (by simp) (by simp [hl, ht])
   rw [List.getD_eq_getElem?_getD, List.getElem?_eq_getElem ht]
   have e1 : (vs ++ Array.replicate (n - vs.size) undef).getD t undef = vs[t] := by
    simp [Array.getElem?_append, hl, ht]
   rw [e1]; exact this
  ·rw [List.getD_eq_getElem?_getD, List.getElem?_eq_none (by omega)]
   have e1 : (vs ++ Array.replicate (n - vs.size) undef).getD t undef = undef := by
    simp only [Array.getD_eq_getD_getElem?, Array.getElem?_append]
    rw [if_neg (by omega)]
    simp only [Array.getElem?_replicate]
    split <;> rfl
   rw [e1]; exact .d (.v _)
 ·have := ha.1
  simp [this]; omega
end Go.Sym
