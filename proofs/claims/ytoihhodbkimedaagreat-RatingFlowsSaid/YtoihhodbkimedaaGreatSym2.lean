/- Operations that make or write memory. -/
import Derived.Test.YtoihhodbkimedaaGreatSym1
set_option linter.unusedVariables false
set_option linter.unusedSimpArgs false
namespace Go.Sym
variable {P : Program} {B B' : KN} {ι ι' : Nat -> Pl} {H H' : Heap} {w w' : World}
structure Eff where
  val : AVal
  upd : List (Nat × HCell)
  pre : List Prop
def CN (H : Heap) : List (Nat × HCell) -> Heap
  | [] => H
  | (i, c) :: r => CN (CB H i c) r
def HQ (B : KN) (ι : Nat -> Pl) (H : Heap) (w : World) (H' : Heap) (v : AVal) (y : Value) (w' : World) : Prop :=
  ∃ B' ι', Moved B ι H w B' ι' H' w' /\ VRel B' ι' H'.dom v y
def AVal.one : AVal -> Bool
  | .d (.v (.agg _)) | .d (.v (.tuple _)) | .d (.agg _) | .d (.tup _) | .d (.arr ..) | .agg _ | .tup _ | .any | .opt .. => false
  | _ => true
theorem QB {D : Nat -> Prop} {a : AVal} {y : Value} (h : a.one = true) (hv : VRel B ι D a y) : y.oneCell' = true := by
  cases hv with
  | d hd => cases hd with
    | v => cases y <;> first | rfl | simp [AVal.one] at h
    | _ => first | rfl | simp [AVal.one] at h
  | _ => first | rfl | simp [AVal.one] at h
theorem hG (t : TypeId) (v : Value) (w : World) : (newVar t v).run P w = .ok ⟨w.heap.size, 0, none⟩ (w.alloc (.cells v.cells t)) := by
  simp [newVar, newRow]
theorem AGT {H : Heap} {r : Nat} (o : AObj) : (CB H r (.live o)).dom r := by unfold Heap.dom; rw [DG]; simp
theorem CGY {H : Heap} {r : Nat} {b : Pl} {c : HCell} (hr : H r = .none) : ∀ i, H.dom i -> (CB H r c).dom i /\ Yl ι r b i = ι i := λ i hi => by
  have hne : i ≠ r := λ he => hi (he ▸ hr)
  exact ⟨by unfold Heap.dom; rw [DE _ _ hne]; exact hi, PA _ _ hne⟩
theorem BXE {r : Nat} (hr : H r = .none) (hH : HRel B ι H w) {es : List AVal} {cs : Array Value} (t : TypeId) (hsz : cs.size = es.length)
    (h : ∀ (j : Nat) (x : AVal) (y : Value), es[j]? = some x -> cs[j]? = some y -> VRel B ι H.dom x y) :
    HQ B ι H w (CB H r (.live (.box es))) (.bptr r 0) (.pointer (some ⟨w.heap.size, 0, none⟩)) (w.alloc (.cells cs t)) := by
  refine ⟨B, Yl ι r ⟨w.heap.size, 0⟩, Moved.new hH hr (.box hsz λ j x y hx hy => (h j x y hx hy).mono (λ _ _ h => h) (CGY hr)), ?_⟩
  have := VRel.bptr (B := B) (ι := Yl ι r ⟨w.heap.size, 0⟩) (D := (CB H r (.live (.box es))).dom) (id := r) (c := 0) (AGT _)
  rw [DA] at this; exact this
theorem Rb {r : Nat} (hr : H r = .none) (hH : HRel B ι H w) {k n : Nat} (q : Nat) {get : Nat -> DVal} {cs : Array Value} (t : TypeId) (hk : ∀ i, i < n -> EOk k (get i)) (hq : n <= q) (hsz : q * k <= cs.size)
    (h : ∀ (i j : Nat) (x : DVal) (y : Value), i < n -> (get i).cells1[j]? = some x -> cs[i * k + j]? = some y -> DRel B x y) :
    ∃ B' ι', Moved B ι H w B' ι' (CB H r (.live (.row k n get))) (w.alloc (.cells cs t)) /\ (CB H r (.live (.row k n get))).dom r /\ ι' r = ⟨w.heap.size, q⟩ :=
  ⟨B, Yl ι r ⟨w.heap.size, q⟩, Moved.new hH hr (.row hk hq hsz h), AGT _, DA _ _ _⟩
def BRI (P : Program) (r : Nat) (t : TypeId) : Option Eff := match P.underlying t, (P.info? t).bind (·.zero) with
  | some (.array m e), some z => match (P.info? e).bind (·.zero) with
    | some ze => if BR (ofV ze).cells1 then some ⟨.rptr r ze.cells.size 0 0, [(r, .live (.row ze.cells.size m λ _ => ofV ze))], [z.cells.toList = (List.replicate m ze.cells.toList).flatten]⟩ else none
    | none => none
  | some _, some z => some ⟨.bptr r 0, [(r, .live (.box (z.cells.toList.map λ x => .d (gN x))))], []⟩
  | _, _ => none
theorem Mg {t : TypeId} {z : Value} (h : (P.info? t).bind (·.zero) = some z) (w : World) : (zeroValue t).run P w = .ok z w := by
  cases hi : P.info? t with
  | none => simp [hi] at h
  | some i => simp [hi] at h; simp [zeroValue, PG hi, h]
theorem hJ (v : Value) (j : Nat) (x : DVal) (y : Value) (hx : (ofV v).cells1[j]? = some x) (hy : v.cells[j]? = some y) : DRel B x y := by
  unfold ofV at hx
  split at hx
  · simp only [DVal.cells1, List.getElem?_map, Option.map_eq_some_iff] at hx
    obtain ⟨z, hz, rfl⟩ := hx
    rw [Array.getElem?_toList] at hz
    simp only [Value.cells] at hy
    rw [hz] at hy; cases hy
    exact KD _
  · cases j with
    | zero => simp [DVal.cells1] at hx; simp [Value.cells] at hy; subst hx; subst hy; exact .nil (λ _ => rfl) (.inl rfl)
    | succ j => simp [DVal.cells1] at hx
  · rename_i h1 h2
    cases j with
    | zero =>
      simp [DVal.cells1] at hx
      subst hx
      cases v <;> simp [Value.cells] at hy <;> first | (subst hy; exact .v _) | exact absurd rfl (h1 _)
    | succ j => simp [DVal.cells1] at hx
theorem FY (v : Value) : (ofV v).cells1.length = v.cells.size := by
  unfold ofV
  split
  · simp [DVal.cells1, Value.cells]
  · rfl
  · rename_i h1 h2
    cases v <;> simp [DVal.cells1, Value.cells] <;> exact absurd rfl (h1 _)
theorem CW {α : Type} {k : Nat} {l : List α} (hk : l.length = k) : ∀ (n i j : Nat), i < n -> j < k -> (List.replicate n l).flatten[i * k + j]? = l[j]?
  | 0, i, j, h, _ => by omega
  | n + 1, 0, j, _, hj => by
    rw [List.replicate_succ, List.flatten_cons, List.getElem?_append_left (by omega)]; simp
  | n + 1, i + 1, j, h, hj => by
    have : (i + 1) * k = i * k + k := Nat.succ_mul i k
    rw [List.replicate_succ, List.flatten_cons, List.getElem?_append_right (by omega), show (i + 1) * k + j - l.length = i * k + j by omega]
    exact CW hk n i j (by omega) hj
theorem BGW {r : Nat} {t : TypeId} {e : Eff} (h : BRI P r t = some e) (hp : BK e.pre) (hr : H r = .none) (hH : HRel B ι H w) :
    ∃ y w', (Instr.alloc t true (.tuple #[])).run P w = .ok y w' /\ HQ B ι H w (CN H e.upd) e.val y w' := by
  unfold BRI at h
  split at h
  · rename_i m el z hu hz
    split at h
    · rename_i ze hze
      split at h
      case isFalse => cases h
      rename_i hone
      cases h
      have hp' : z.cells.toList = (List.replicate m ze.cells.toList).flatten := hp
      refine ⟨_, _, by simp [Instr.alloc, Mg hz, hG]; exact ⟨rfl, rfl⟩, ?_⟩
      obtain ⟨B', ι', h1, h2, h3⟩ := Rb (k := ze.cells.size) (n := m) (get := λ _ => ofV ze) (cs := z.cells) hr hH m t (λ i _ => ⟨FY ze, hone⟩) (Nat.le_refl _)
        (by have := congrArg List.length hp'; simp at this; omega) (λ i j x y hi hx hy => by
          have hlt := (List.getElem?_eq_some_iff.1 hx).1
          rw [FY] at hlt
          rw [<- Array.getElem?_toList, hp', CW (by simp) m i j hi (by simpa using hlt), Array.getElem?_toList] at hy
          exact hJ ze j x y hx hy)
      refine ⟨B', ι', h1, ?_⟩
      have := VRel.rptr (B := B') (ι := ι') (D := (CB H r (.live (.row ze.cells.size m λ _ => ofV ze))).dom) (k := ze.cells.size) (i := 0) (c := 0) h2
      rw [h3, show 0 * _ + 0 = 0 by simp] at this; exact this
    · cases h
  · rename_i d z _ hu hz
    cases h
    refine ⟨_, _, by simp [Instr.alloc, Mg hz, hG]; exact ⟨rfl, rfl⟩, ?_⟩
    exact BXE hr hH t (by simp) λ j x y hx hy => by
      simp only [List.getElem?_map, Option.map_eq_some_iff] at hx
      obtain ⟨u, hu, rfl⟩ := hx
      rw [Array.getElem?_toList] at hu
      rw [hu] at hy; cases hy
      exact .d (KD _)
  · cases h
def boxA (r : Nat) (x : AVal) : Option Eff := match x with
  | .d (.arr k n get) => some ⟨.rptr r k 0 0, [(r, .live (.row k n get))], []⟩
  | x => if x.noAgg then some ⟨.bptr r 0, [(r, .live (.box x.cells))], []⟩ else none
theorem BPR {r : Nat} {t : TypeId} {x : AVal} {v : Value} {e : Eff} (h : boxA r x = some e) (hr : H r = .none) (hH : HRel B ι H w) (hv : VRel B ι H.dom x v) :
    ∃ y w', (Instr.box t v).run P w = .ok y w' /\ HQ B ι H w (CN H e.upd) e.val y w' := by
  refine ⟨.pointer (some ⟨w.heap.size, 0, none⟩), w.alloc (.cells v.cells t), by simp [Instr.box, hG], ?_⟩
  unfold boxA at h
  split at h
  · rename_i k n get
    cases h
    cases hv.d_inv with
    | arr hl hk hrel =>
      rename_i ys
      obtain ⟨B', ι', h1, h2, h3⟩ := Rb (cs := ys) hr hH n t hk (Nat.le_refl _) (by omega) hrel
      refine ⟨B', ι', h1, ?_⟩
      have := VRel.rptr (B := B') (ι := ι') (D := (CB H r (.live (.row k n get))).dom) (k := k) (i := 0) (c := 0) h2
      rw [h3, show 0 * _ + 0 = 0 by simp] at this; exact this
  · split at h
    · rename_i hn
      cases h
      obtain ⟨h1, h2⟩ := gB hv hn
      exact BXE hr hH t h1 h2
    · cases h
theorem Ja {b o : Nat} {cs : Array Value} {e : TypeId} {vs : List Value} (hq : w.heap[b]? = some (.cells cs e (0, 0))) (hl : o + vs.length <= cs.size) (h1 : ∀ v ∈ vs, v.oneCell' = true) :
    (storeCells ⟨b, o, none⟩ vs).run P w = .ok () (w.setRow b (cs.toList.take o ++ vs ++ cs.toList.drop (o + vs.length)).toArray) := by
  have := run_storeCells_at (P := P) b o e vs 0 cs w hq (by simpa using hl) h1
  simpa using this
theorem Cz {t : TypeId} {n b o : Nat} {cs : Array Value} {e : TypeId} {v : Value} (hn : (P.info? t).map (·.size) = some n) (hs : v.cells.size = n) (hq : w.heap[b]? = some (.cells cs e (0, 0))) (hl : o + n <= cs.size)
    (h1 : ∀ u ∈ v.cells.toList, u.oneCell' = true) :
    (Instr.storeAt t (.pointer (some ⟨b, o, none⟩)) v).run P w = .ok () (w.setRow b (cs.toList.take o ++ v.cells.toList ++ cs.toList.drop (o + n)).toArray) := by
  have := Ja (P := P) (vs := v.cells.toList) hq (by simpa [hs] using hl) h1
  simp [Instr.storeAt, Instr.sureAddr, storeVar, CS hn, hs, this]
def BKZ (c : Bool) : DVal -> DVal -> DVal
  | .v (.int k x), .v (.int k' y) => if k = k' then .v (.int k (cond c x y)) else cond c (.v (.int k x)) (.v (.int k' y))
  | .v (.bool x), .v (.bool y) => .v (.bool (cond c x y))
  | a, b => cond c a b
theorem BBL (c : Bool) (a b : DVal) : BKZ c a b = cond c a b := by
  unfold BKZ; split
  · split
    · rename_i h; subst h; cases c <;> rfl
    · rfl
  · cases c <;> rfl
  · rfl
def Eg (c : Bool) : List DVal -> List DVal -> Option (List DVal)
  | [], [] => some []
  | a :: r, b :: s => match Eg c r s with
    | some l => some (BKZ c a b :: l)
    | none => none
  | _, _ => none
theorem ALF (c : Bool) : ∀ {l m r : List DVal}, Eg c l m = some r -> r = cond c l m
  | [], [], r, h => by simp [Eg] at h; subst h; cases c <;> rfl
  | a :: l, b :: m, r, h => by
    simp only [Eg] at h
    split at h
    · rename_i q hq
      cases h
      rw [ALF c hq, BBL]; cases c <;> rfl
    · cases h
  | [], _ :: _, _, h => by simp [Eg] at h
  | _ :: _, [], _, h => by simp [Eg] at h
def BPS (c : Bool) (a b : DVal) : DVal := match a, b with
  | .agg l, .agg m => match Eg c l m with
    | some r => .agg r
    | none => cond c a b
  | a, b => BKZ c a b
theorem BYX (c : Bool) (a b : DVal) : BPS c a b = cond c a b := by
  unfold BPS; split
  · split
    · rename_i h; rw [ALF c h]; cases c <;> rfl
    · rfl
  · exact BBL c a b
def BEW (c : Bool) : DVal -> DVal -> DVal
  | .v (.int k x), .v (.int k' y) => if k = k' then .v (.int k (cond c x y)) else cond c (.v (.int k x)) (.v (.int k' y))
  | .v (.bool x), .v (.bool y) => .v (.bool (cond c x y))
  | .list k n g e, .list k' n' g' e' => if k = k' then .list k (cond c n n') (λ i => BPS c (g i) (g' i)) (cond c e e') else cond c (.list k n g e) (.list k' n' g' e')
  | a, b => cond c a b
theorem BBW (c : Bool) (a b : DVal) : BEW c a b = cond c a b := by
  unfold BEW; split
  · split
    · rename_i h; subst h; cases c <;> rfl
    · rfl
  · cases c <;> rfl
  · split
    · rename_i h; subst h
      simp only [BYX]
      cases c <;> rfl
    · rfl
  · rfl
def dT (c : Bool) : List DVal -> List DVal -> Option (List DVal)
  | [], [] => some []
  | a :: r, b :: s => match dT c r s with
    | some l => some (BEW c a b :: l)
    | none => none
  | _, _ => none
theorem BCD (c : Bool) : ∀ {l m r : List DVal}, dT c l m = some r -> r = cond c l m
  | [], [], r, h => by simp [dT] at h; subst h; cases c <;> rfl
  | a :: l, b :: m, r, h => by
    simp only [dT] at h
    split at h
    · rename_i q hq
      cases h
      rw [BCD c hq, BBW]; cases c <;> rfl
    · cases h
  | [], _ :: _, _, h => by simp [dT] at h
  | _ :: _, [], _, h => by simp [dT] at h
def Lo (c : Bool) (a b : DVal) : DVal := match a, b with
  | .agg l, .agg m => match dT c l m with
    | some r => .agg r
    | none => cond c a b
  | a, b => BEW c a b
theorem HJ (c : Bool) (a b : DVal) : Lo c a b = cond c a b := by
  unfold Lo; split
  · split
    · rename_i h; rw [BCD c h]; cases c <;> rfl
    · rfl
  · exact BBW c a b
def BDN (x : DVal) (c : Nat) (ds : List DVal) : DVal := match x with
  | .agg l => .agg (l.take c ++ ds ++ l.drop (c + ds.length))
  | x => match c, ds with
    | 0, [d] => d
    | _, _ => x
theorem ANU (x : DVal) (c : Nat) (ds : List DVal) (h1 : ∀ d, d ∈ ds -> d.cells1 = [d]) (hc : c + ds.length <= x.cells1.length) :
    (BDN x c ds).cells1 = x.cells1.take c ++ ds ++ x.cells1.drop (c + ds.length) := by
  have other : ∀ x : DVal, x.cells1 = [x] -> c + ds.length <= 1 -> (match c, ds with | 0, [d] => d | _, _ => x).cells1 = [x].take c ++ ds ++ [x].drop (c + ds.length) := by
    intro x hx hc
    match c, ds, hc with
    | 0, [], _ => simpa using hx
    | 0, [d], _ => simpa using h1 d (by simp)
    | 0, _ :: _ :: _, h => simp at h
    | 1, [], _ => simpa using hx
    | 1, _ :: _, h => simp at h; omega
    | c + 2, _, h => omega
  cases x with
  | agg l => rfl
  | _ => exact other _ rfl hc
theorem FT : ∀ {ds : List DVal}, BR ds = true -> ∀ d, d ∈ ds -> d.cells1 = [d]
  | [], _, d, h => by simp at h
  | x :: r, h, d, hd => by
    cases x with
    | v y => cases y <;> simp only [BR, Bool.false_eq_true] at h <;> (rcases List.mem_cons.1 hd with rfl | hd; rfl; exact FT (ds := r) h d hd)
    | list a b c e => rcases List.mem_cons.1 hd with rfl | hd; rfl; exact FT (ds := r) h d hd
    | eref a b => rcases List.mem_cons.1 hd with rfl | hd; rfl; exact FT (ds := r) h d hd
    | iface a b => rcases List.mem_cons.1 hd with rfl | hd; rfl; exact FT (ds := r) h d hd
    | anyB => rcases List.mem_cons.1 hd with rfl | hd; rfl; exact FT (ds := r) h d hd
    | _ => simp [BR] at h
theorem GY : ∀ {ds : List DVal}, BR ds = true -> ∀ d, d ∈ ds -> (AVal.d d).one = true
  | [], _, d, h => by simp at h
  | x :: r, h, d, hd => by
    cases x with
    | v y => cases y <;> simp only [BR, Bool.false_eq_true] at h <;> (rcases List.mem_cons.1 hd with rfl | hd; rfl; exact GY (ds := r) h d hd)
    | list a b c e => rcases List.mem_cons.1 hd with rfl | hd; rfl; exact GY (ds := r) h d hd
    | eref a b => rcases List.mem_cons.1 hd with rfl | hd; rfl; exact GY (ds := r) h d hd
    | iface a b => rcases List.mem_cons.1 hd with rfl | hd; rfl; exact GY (ds := r) h d hd
    | anyB => rcases List.mem_cons.1 hd with rfl | hd; rfl; exact GY (ds := r) h d hd
    | _ => simp [BR] at h
theorem AQQ : ∀ {ds : List DVal}, BR ds = true ↔ ∀ d, d ∈ ds -> BR [d] = true
  | [] => by simp [BR]
  | x :: r => by
    have key : BR (x :: r) = true ↔ BR [x] = true /\ BR r = true := by
      cases x with
      | v y => cases y <;> simp [BR]
      | _ => simp [BR]
    rw [key, AQQ (ds := r)]
    simp
theorem BAW {l m : List DVal} {c n : Nat} (hl : BR l = true) (hm : BR m = true) : BR (l.take c ++ m ++ l.drop n) = true := by
  rw [AQQ] at *
  intro d hd
  simp only [List.mem_append] at hd
  rcases hd with (hd | hd) | hd
  · exact hl d (List.mem_of_mem_take hd)
  · exact hm d hd
  · exact hl d (List.mem_of_mem_drop hd)
def Z5 (P : Program) (H : Heap) (t : TypeId) (p x : AVal) : Option Eff :=
  match p, P.underlying t, (P.info? t).map (·.size) with
  | .bptr id c, some _, some n => match H id with
    | .live (.box es) => if x.noAgg && x.cells.length == n && x.cells.all AVal.one && Nat.ble (c + n) es.length then
        some ⟨.d (.v undef), [(id, .live (.box (es.take c ++ x.cells ++ es.drop (c + n))))], []⟩ else none
    | _ => none
  | .rptr id k i c, some (.array _ _), some n => match i, c, H id, x with
    | 0, 0, .live (.row k' m _), .d (.arr k2 m2 get2) => if k == k' && k == k2 && m == m2 && n == m * k then
        some ⟨.d (.v undef), [(id, .live (.row k m get2))], []⟩ else none
    | _, _, _, _ => none
  | .rptr id k i c, some _, some n => match H id, x with
    | .live (.row k' m get), .d x => if k == k' && x.cells1.length == n && BR x.cells1 && Nat.ble (c + n) k then
        some ⟨.d (.v undef), [(id, .live (.row k m λ j => Lo (decide (j = i)) (if n = k then x else BDN (get i) c x.cells1) (get j)))], [i < m]⟩ else none
    | _, _ => none
  | _, _, _ => none
theorem Wg {id : Nat} {o o' : AObj} (hH : HRel B ι H w) (hid : H id = .live o) {cs cs' : Array Value} {t : TypeId} (hq : w.heap[(ι id).b]? = some (.cells cs t (0, 0)))
    (ho : ORel B ι H.dom (ι id).cap o' (some (.cells cs' t (0, 0)))) : HQ B ι H w (CB H id (.live o')) (.d (.v undef)) undef (w.setRow (ι id).b cs') := by
  refine ⟨B, ι, Moved.write hH hid (by simp) (λ b hb => setRow_other w (ι id).b b cs' hb) ?_, .d (.v _)⟩
  rw [setRow_heap w (ι id).b cs cs' t (0, 0) hq]; exact ho
theorem FO {α : Type} {l m : List α} {c n : Nat} (hm : m.length = n) (hc : c + n <= l.length) (j : Nat) :
    (l.take c ++ m ++ l.drop (c + n))[j]? = if c <= j /\ j < c + n then m[j - c]? else l[j]? := by
  have h1 : (l.take c).length = c := by simp; omega
  by_cases hj : j < c
  · rw [List.append_assoc, List.getElem?_append_left (by omega), List.getElem?_take, if_pos hj, if_neg (by omega)]
  · by_cases hj2 : j < c + n
    · rw [List.getElem?_append_left (by simp [h1, hm]; omega), List.getElem?_append_right (by omega), if_pos (by omega), h1]
    · rw [List.getElem?_append_right (by simp [h1, hm]; omega), if_neg (by omega), List.getElem?_drop]
      congr 1
      simp [h1, hm]; omega
theorem BFJ {t : TypeId} {p x : AVal} {v u : Value} {e : Eff} (h : Z5 P H t p x = some e) (hp : BK e.pre) (hH : HRel B ι H w) (hv : VRel B ι H.dom p v) (hx : VRel B ι H.dom x u) :
    ∃ w', (Instr.storeAt t v u).run P w = .ok () w' /\ HQ B ι H w (CN H e.upd) e.val undef w' := by
  unfold Z5 at h
  split at h
  · rename_i id c d n hu hn
    split at h
    · rename_i es hid
      split at h
      · rename_i hc
        cases h
        simp only [Bool.and_eq_true, beq_iff_eq, Nat.ble_eq, List.all_eq_true] at hc
        obtain ⟨⟨⟨hna, hlen⟩, hone⟩, hle⟩ := hc
        cases hv
        obtain ⟨h1, h2⟩ := gB hx hna
        have ho := hH.obj _ _ hid
        generalize hq : w.heap[(ι id).b]? = q at ho
        cases ho with
        | box hsz hrel =>
          rename_i cs te
          have h1' : ∀ z ∈ u.cells.toList, z.oneCell' = true := λ z hz => by
            obtain ⟨j, hj, rfl⟩ := List.getElem_of_mem hz
            have hj' : j < x.cells.length := by rw [<- h1]; simpa using hj
            exact QB (hone _ (List.getElem_mem hj')) (h2 j x.cells[j] _ (by simp) (by simp at hj; simp [hj]))
          refine ⟨_, Cz hn (by rw [h1, hlen]) hq (by omega) h1', Wg hH hid hq (.box (by simp; omega) λ j a y ha hy => ?_)⟩
          rw [FO hlen hle] at ha
          rw [List.getElem?_toArray, FO (by simpa [hlen] using h1) (by simpa [hsz] using hle)] at hy
          split at ha
          · rename_i hj
            rw [if_pos hj] at hy
            exact h2 _ _ _ ha (by simpa using hy)
          · rename_i hj
            rw [if_neg hj] at hy
            exact hrel _ _ _ ha (by simpa using hy)
      · cases h
    · cases h
  · rename_i id k i0 c0 m0 el n hu hn
    split at h
    · rename_i k' m get k2 m2 get2 hid
      split at h
      · rename_i hc
        cases h
        simp only [Bool.and_eq_true, beq_iff_eq] at hc
        obtain ⟨⟨⟨rfl, rfl⟩, rfl⟩, rfl⟩ := hc
        cases hv
        have ho := hH.obj _ _ hid
        generalize hq : w.heap[(ι id).b]? = q at ho
        cases ho with
        | row hk hnq hsz' hrel =>
          have hsz := Nat.le_trans (Nat.mul_le_mul_right _ hnq) hsz'
          rename_i cs te
          cases hx.d_inv with
          | arr hl hk2 hrel2 =>
            rename_i ys
            have h1' : ∀ z ∈ (Value.agg ys).cells.toList, z.oneCell' = true := λ z hz => by
              obtain ⟨j, hj, rfl⟩ := List.getElem_of_mem hz
              simp only [Value.cells, Array.length_toList] at hj
              have hk0 : 0 < k := Nat.pos_of_ne_zero (by rintro rfl; rw [Nat.mul_zero] at hl; omega)
              have hi : j / k < m := by rw [Nat.div_lt_iff_lt_mul hk0]; omega
              have hm : j % k < k := Nat.mod_lt _ hk0
              have hjj : j / k * k + j % k = j := by rw [Nat.mul_comm]; exact Nat.div_add_mod j k
              have hlt : j % k < (get2 (j / k)).cells1.length := by rw [(hk2 _ hi).len]; exact hm
              have := hrel2 (j / k) (j % k) (get2 (j / k)).cells1[j % k] ys[j] hi (by simp) (by rw [hjj]; simp [hj])
              exact QB (B := B) (ι := ι) (D := H.dom) (GY (hk2 _ hi).one _ (List.getElem_mem hlt)) (.d (by simpa [Value.cells] using this))
            have e0 : 0 * k + 0 = 0 := by simp
            rw [e0]
            refine ⟨_, Cz hn (by simpa [Value.cells] using hl) hq (by omega) h1', Wg hH hid hq (.row hk2 hnq (by simp [Value.cells, hl]; omega) λ i j a y hi ha hy => ?_)⟩
            have hlt := (List.getElem?_eq_some_iff.1 ha).1
            rw [(hk2 i hi).len] at hlt
            have h2 : (i + 1) * k <= m * k := Nat.mul_le_mul_right k hi
            have h3 : (i + 1) * k = i * k + k := Nat.succ_mul i k
            rw [List.getElem?_toArray, FO (by simpa [Value.cells] using hl) (by simpa using hsz), if_pos (by omega)] at hy
            exact hrel2 i j a y hi ha (by simpa [Value.cells] using hy)
      · cases h
    · cases h
  · rename_i id k i c d n _ hu hn
    split at h
    · rename_i k' m get x hid
      split at h
      · rename_i hc
        cases h
        simp only [Bool.and_eq_true, beq_iff_eq, Nat.ble_eq] at hc
        obtain ⟨⟨⟨rfl, hlen⟩, hone⟩, hle⟩ := hc
        have hi : i < m := hp
        cases hv
        have ho := hH.obj _ _ hid
        generalize hq : w.heap[(ι id).b]? = q at ho
        cases ho with
        | row hk hnq hsz' hrel =>
          have hsz := Nat.le_trans (Nat.mul_le_mul_right _ hnq) hsz'
          rename_i cs te
          have hxx : u.cells.size = n /\ ∀ (j : Nat) (a : DVal) (z : Value), x.cells1[j]? = some a -> u.cells[j]? = some z -> DRel B a z := by
            cases hx.d_inv with
            | v => cases u <;> simp [DVal.cells1] at hlen <;> first
                | (refine ⟨by simp [Value.cells, hlen], λ j a z ha hz => ?_⟩; cases j with
                    | zero => simp [DVal.cells1, Value.cells] at ha hz; subst ha; subst hz; exact .v _
                    | succ j => simp [DVal.cells1] at ha)
                | simp [DVal.cells1, BR] at hone
            | agg hl hr => exact ⟨by simpa [Value.cells, DVal.cells1, <- hlen] using hl, hr⟩
            | tup hl hr => simp [DVal.cells1, BR] at hone
            | arr _ _ _ => simp [DVal.cells1, BR] at hone
            | nil a b => exact ⟨by simpa [Value.cells, DVal.cells1] using hlen, λ j a z ha hz => by
                cases j with
                | zero => simp [DVal.cells1, Value.cells] at ha hz; subst ha; subst hz; exact .nil ‹_› ‹_›
                | succ j => simp [DVal.cells1] at ha⟩
            | list a b c e f g h => exact ⟨by simpa [Value.cells, DVal.cells1] using hlen, λ j a z ha hz => by
                cases j with
                | zero => simp [DVal.cells1, Value.cells] at ha hz; subst ha; subst hz; exact .list ‹_› ‹_› ‹_› ‹_› ‹_› ‹_› ‹_›
                | succ j => simp [DVal.cells1] at ha⟩
            | eref a b c => exact ⟨by simpa [Value.cells, DVal.cells1] using hlen, λ j a z ha hz => by
                cases j with
                | zero => simp [DVal.cells1, Value.cells] at ha hz; subst ha; subst hz; exact .eref ‹_› ‹_› ‹_›
                | succ j => simp [DVal.cells1] at ha⟩
            | iface a => exact ⟨by simpa [Value.cells, DVal.cells1] using hlen, λ j a z ha hz => by
                cases j with
                | zero => simp [DVal.cells1, Value.cells] at ha hz; subst ha; subst hz; exact .iface ‹_›
                | succ j => simp [DVal.cells1] at ha⟩
            | anyB => exact ⟨by simpa [Value.cells, DVal.cells1] using hlen, λ j a z ha hz => by
                cases j with
                | zero => simp [DVal.cells1, Value.cells] at ha hz; subst ha; subst hz; exact .anyB
                | succ j => simp [DVal.cells1] at ha⟩
          obtain ⟨h1, h2⟩ := hxx
          have h1' : ∀ z ∈ u.cells.toList, z.oneCell' = true := λ z hz => by
            obtain ⟨j, hj, rfl⟩ := List.getElem_of_mem hz
            have hj' : j < x.cells1.length := by rw [hlen, <- h1]; simpa using hj
            exact QB (B := B) (ι := ι) (D := H.dom) (GY hone _ (List.getElem_mem hj')) (.d (h2 j x.cells1[j] _ (by simp) (by simp at hj; simp [hj])))
          have h3 : (i + 1) * k <= m * k := Nat.mul_le_mul_right k hi
          have h4 : (i + 1) * k = i * k + k := Nat.succ_mul i k
          have hnew : (if n = k then x else BDN (get i) c x.cells1).cells1 = (get i).cells1.take c ++ x.cells1 ++ (get i).cells1.drop (c + n) := by
            split
            · rename_i hnk
              have : c = 0 := by omega
              subst this
              have hki := (hk i hi).len
              simp [hnk, <- hki]
            · rw [ANU _ _ _ (FT hone) (by rw [(hk i hi).len, hlen]; exact hle), hlen]
          refine ⟨_, Cz hn h1 hq (by omega) h1', Wg hH hid hq (.row (λ j hj => ?_) hnq (by simp; omega) λ j l a y hj ha hy => ?_)⟩
          · simp only [HJ]
            by_cases hji : j = i
            · subst hji
              simp only [decide_true, cond_true]
              refine ⟨?_, ?_⟩
              · rw [hnew]; simp [(hk j hj).len, hlen]; omega
              · rw [hnew]; exact BAW (hk j hj).one hone
            · simp only [hji, decide_false, cond_false]; exact hk j hj
          · simp only [HJ] at ha
            rw [List.getElem?_toArray, FO (by simpa using h1) (by simp; omega)] at hy
            by_cases hji : j = i
            · subst hji
              simp only [decide_true, cond_true, hnew] at ha
              rw [FO hlen (by rw [(hk j hj).len]; exact hle)] at ha
              split at ha
              · rename_i hl
                rw [if_pos (by omega), show j * k + l - (j * k + c) = l - c by omega] at hy
                exact h2 _ _ _ ha (by simpa using hy)
              · rename_i hl
                have hlt := (List.getElem?_eq_some_iff.1 ha).1
                rw [(hk j hj).len] at hlt
                rw [if_neg (by omega)] at hy
                exact hrel _ _ _ _ hj ha (by simpa using hy)
            · simp only [hji, decide_false, cond_false] at ha
              have hlt := (List.getElem?_eq_some_iff.1 ha).1
              rw [(hk j hj).len] at hlt
              have : ¬ (i * k + c <= j * k + l /\ j * k + l < i * k + c + n) := by
                rcases Nat.lt_or_gt_of_ne hji with hlt2 | hgt
                · have h5 : (j + 1) * k <= i * k := Nat.mul_le_mul_right k hlt2
                  have h6 : (j + 1) * k = j * k + k := Nat.succ_mul j k
                  omega
                · have h5 : (i + 1) * k <= j * k := Nat.mul_le_mul_right k hgt
                  omega
              rw [if_neg this] at hy
              exact hrel _ _ _ _ hj ha (by simpa using hy)
      · cases h
    · cases h
  · cases h
end Go.Sym

namespace Go.Sym
variable {P : Program} {B B' : KN} {ι ι' : Nat -> Pl} {H H' : Heap} {D : Nat -> Prop} {w w' : World}
theorem BMI : ∀ (vs : List Value) (n off : Nat) (cs : Array Value), off + n + vs.length <= cs.size ->
    (vs.zipIdx n).foldl (λ cs (x : Value × Nat) => cs.setIfInBounds (off + x.2) x.1) cs = (cs.toList.take (off + n) ++ vs ++ cs.toList.drop (off + n + vs.length)).toArray
  | [], n, off, cs, _ => by simp
  | v :: vs, n, off, cs, h => by
    simp only [List.zipIdx_cons, List.foldl_cons]
    rw [BMI vs (n + 1) off _ (by simp at h ⊢; omega)]
    congr 1
    apply List.ext_getElem?
    intro j
    have h1 : off + (n + 1) + vs.length <= (cs.setIfInBounds (off + n) v).toList.length := by simp at h ⊢; omega
    have h2 : off + n + (v :: vs).length <= cs.toList.length := by simpa using h
    rw [FO rfl h1, FO rfl h2]
    simp only [Array.toList_setIfInBounds, List.length_cons, List.getElem?_set]
    by_cases hj : j = off + n
    · subst hj
      rw [if_neg (by omega), if_pos rfl, if_pos (by simp at h; simp; omega), if_pos (by omega)]
      simp
    · by_cases hj2 : off + (n + 1) <= j /\ j < off + (n + 1) + vs.length
      · rw [if_pos hj2, if_pos (by omega)]
        obtain ⟨q, hq⟩ : ∃ q, j - (off + n) = q + 1 := ⟨j - (off + n) - 1, by omega⟩
        rw [hq, show j - (off + (n + 1)) = q by omega]; rfl
      · rw [if_neg hj2, if_neg (λ e => hj e.symm), if_neg (by omega)]
def Ys (place : Nat -> Option (Nat × Nat)) (l : List AVal) : List (Nat × AVal) -> Option (List AVal)
  | [] => some l
  | (i, a) :: rest => match place i with
    | some (off, size) => if a.noAgg && a.cells.length == size && Nat.ble (off + size) l.length then Ys place (l.take off ++ a.cells ++ l.drop (off + size)) rest else none
    | none => none
theorem PR {place : Nat -> Option (Nat × Nat)} : ∀ {pa : List (Nat × AVal)} {pv : List (Nat × Value)} {l r : List AVal} {cs : Array Value}, Ys place l pa = some r -> pv.length = pa.length ->
    (∀ (j : Nat) (x : Nat × AVal) (y : Nat × Value), pa[j]? = some x -> pv[j]? = some y -> x.1 = y.1 /\ VRel B ι D x.2 y.2) -> cs.size = l.length ->
    (∀ (j : Nat) (x : AVal) (y : Value), l[j]? = some x -> cs[j]? = some y -> VRel B ι D x y) ->
    ∃ ys, Instr.fill place cs pv = some ys /\ ys.size = r.length /\ ∀ (j : Nat) (x : AVal) (y : Value), r[j]? = some x -> ys[j]? = some y -> VRel B ι D x y
  | [], pv, l, r, cs, h, hl, _, hsz, hr => by
    have : pv = [] := by simpa using hl
    subst this
    simp only [Ys, Option.some.injEq] at h; subst h
    exact ⟨cs, rfl, hsz, hr⟩
  | (i, a) :: pa, pv, l, r, cs, h, hl, hp, hsz, hr => by
    cases pv with
    | nil => simp at hl
    | cons y pv =>
      obtain ⟨i', v⟩ := y
      obtain ⟨rfl, hv⟩ := hp 0 (i, a) (i', v) rfl rfl
      simp only [Ys] at h
      split at h
      · rename_i off size hpl
        split at h
        · rename_i hc
          simp only [Bool.and_eq_true, beq_iff_eq, Nat.ble_eq] at hc
          obtain ⟨⟨hna, hlen⟩, hle⟩ := hc
          obtain ⟨h1, h2⟩ := gB hv hna
          have hvs : v.cells.size = size := by rw [h1, hlen]
          have key := BMI v.cells.toList 0 off cs (by simp; omega)
          simp only [Nat.add_zero] at key
          have hf : Instr.fill place cs ((i, v) :: pv) = Instr.fill place (cs.toList.take off ++ v.cells.toList ++ cs.toList.drop (off + size)).toArray pv := by
            simp only [Instr.fill, hpl]
            rw [if_neg (by simp only [Bool.or_eq_true, decide_eq_true_eq]; omega)]
            congr 1
            rw [<- Array.foldl_toList, Array.toList_zipIdx, key]
            simp [hvs]
          rw [hf]
          refine PR h (by simpa using hl) (λ j x y hx hy => hp (j + 1) x y hx hy) (by simp; omega) λ j x y hx hy => ?_
          rw [FO hlen hle] at hx
          rw [List.getElem?_toArray, FO (by simpa using hvs) (by simpa [hsz] using hle)] at hy
          split at hx
          · rename_i hj
            rw [if_pos hj] at hy
            exact h2 _ _ _ hx (by simpa using hy)
          · rename_i hj
            rw [if_neg hj] at hy
            exact hr _ _ _ hx (by simpa using hy)
        · cases h
      · cases h
theorem Wl {place : Nat -> Option (Nat × Nat)} : ∀ {pa : List (Nat × AVal)} {l r : List AVal}, Ys place l pa = some r -> r.length = l.length
  | [], l, r, h => by simp only [Ys, Option.some.injEq] at h; rw [h]
  | (i, a) :: pa, l, r, h => by
    simp only [Ys] at h
    split at h
    · split at h
      · rename_i hc
        simp only [Bool.and_eq_true, beq_iff_eq, Nat.ble_eq] at hc
        rw [Wl h]; simp; omega
      · cases h
    · cases h
def BSU (P : Program) (t : TypeId) (pa : List (Nat × AVal)) : Option (AVal × List Prop) := match P.underlying t, (P.info? t).bind (·.zero) with
  | some (.struct fields), some z => match fields.toList.mapM (λ f => (P.info? f.type).map λ i => (f.offset, i.size)) with
    | some places => match Ys (places[·]?) (z.cells.toList.map λ x => .d (gN x)) pa with
      | some r => some (ATL r, [])
      | none => none
    | none => none
  | some (.array m e), some z => match pa, (P.info? e).bind (·.zero) with
    | [], some ze => if BR (ofV ze).cells1 then some (.d (.arr ze.cells.size m λ _ => ofV ze), [z.cells.toList = (List.replicate m ze.cells.toList).flatten]) else none
    | _, _ => none
  | _, _ => none
theorem BLF {t : TypeId} {pa : List (Nat × AVal)} {parts : Array (Nat × Value)} {a : AVal} {pre : List Prop} (h : BSU P t pa = some (a, pre)) (hpre : BK pre) (hl : parts.size = pa.length)
    (hp : ∀ (j : Nat) (x : Nat × AVal) (y : Nat × Value), pa[j]? = some x -> parts[j]? = some y -> x.1 = y.1 /\ VRel B ι D x.2 y.2) (w : World) :
    ∃ y, (Instr.build t parts).run P w = .ok y w /\ VRel B ι D a y := by
  unfold BSU at h
  split at h
  · rename_i fields z hu hz
    split at h
    · rename_i places hpl
      split at h
      · rename_i r hf
        cases h
        obtain ⟨ys, h1, h2, h3⟩ := PR (pv := parts.toList) (cs := z.cells) hf (by simpa using hl) (λ j x y hx hy => hp j x y hx (by simpa using hy)) (by simp) (λ j x y hx hy => by
          simp only [List.getElem?_map, Option.map_eq_some_iff] at hx
          obtain ⟨u, hu, rfl⟩ := hx
          rw [Array.getElem?_toList] at hu
          rw [hu] at hy; cases hy
          exact .d (KD _))
        refine ⟨.agg ys, run_build (P := P) w t parts ys ?_, Ta h2 h3⟩
        unfold Program.built
        cases hi : P.info? t with
        | none => simp [hi] at hz
        | some it =>
          simp [hi] at hz
          simp only [hu, hz, hpl]
          simpa using h1
      · cases h
    · cases h
  · rename_i m e z hu hz
    split at h
    · rename_i ze hze
      split at h
      case isFalse => cases h
      rename_i hone
      cases h
      have hp' : z.cells.toList = (List.replicate m ze.cells.toList).flatten := hpre
      have : parts = #[] := by simpa using hl
      subst this
      refine ⟨.agg z.cells, run_build (P := P) w t #[] z.cells ?_, .d (.arr ?_ ?_ ?_)⟩
      · unfold Program.built
        cases hi : P.info? t with
        | none => simp [hi] at hz
        | some it =>
          simp [hi] at hz
          cases hie : P.info? e with
          | none => simp [hie] at hze
          | some ie => simp [hu, hz, hie, Instr.fill]
      · have := congrArg List.length hp'; simp at this; omega
      · exact λ i _ => ⟨FY ze, hone⟩
      · intro i j x y hi hx hy
        have hlt := (List.getElem?_eq_some_iff.1 hx).1
        rw [FY] at hlt
        rw [<- Array.getElem?_toList, hp', CW (by simp) m i j hi (by simpa using hlt), Array.getElem?_toList] at hy
        exact hJ ze j x y hx hy
    · cases h
  · cases h
def BPP (ds : List DVal) : DVal := match ds with
  | [d] => d
  | ds => .agg ds
theorem BAX {ds : List DVal} (h : BR ds = true) : (BPP ds).cells1 = ds := by
  unfold BPP; split
  · exact FT h _ (by simp)
  · rfl
def ALW (k : Nat) : Nat -> List AVal -> Option (List DVal)
  | 0, _ => some []
  | n + 1, l => match allD (l.take k), ALW k n (l.drop k) with
    | some ds, some es => if ds.length == k && BR ds then some (BPP ds :: es) else none
    | _, _ => none
theorem Iu {k : Nat} : ∀ {n : Nat} {l : List AVal} {es : List DVal}, ALW k n l = some es -> es.length = n /\ ∀ (i : Nat) (e : DVal), es[i]? = some e ->
    EOk k e /\ ∀ (j : Nat) (x : DVal), e.cells1[j]? = some x -> l[i * k + j]? = some (.d x)
  | 0, _, es, h => by simp [ALW] at h; subst h; simp
  | n + 1, l, es, h => by
    simp only [ALW] at h
    split at h
    · rename_i ds es' hd he
      split at h
      · rename_i hc
        cases h
        simp only [Bool.and_eq_true, beq_iff_eq] at hc
        obtain ⟨h1, h2⟩ := Iu he
        refine ⟨by simp [h1], λ i e hie => ?_⟩
        have hdl := Vg hd
        cases i with
        | zero =>
          simp at hie; subst hie
          have hcc := BAX hc.2
          refine ⟨⟨by rw [hcc]; exact hc.1, by rw [hcc]; exact hc.2⟩, λ j x hx => ?_⟩
          rw [hcc] at hx
          have hj := (List.getElem?_eq_some_iff.1 hx).1
          have : (l.take k)[j]? = some (.d x) := by rw [hdl]; simp [hx]
          rw [List.getElem?_take, if_pos (by omega)] at this
          simpa using this
        | succ i =>
          simp at hie
          obtain ⟨h3, h4⟩ := h2 i e hie
          refine ⟨h3, λ j x hx => ?_⟩
          have := h4 j x hx
          rw [List.getElem?_drop] at this
          rw [Nat.succ_mul, show i * k + k + j = k + (i * k + j) by omega]
          exact this
      · cases h
    · cases h
def sO : List DVal -> Nat -> DVal
  | [], _ => default
  | [x], _ => x
  | x :: y :: r, i => Lo (decide (i = 0)) x (sO (y :: r) (i - 1))
theorem uL : ∀ (es : List DVal) (i : Nat), i < es.length -> sO es i = es.getD i default
  | [], i, h => by simp at h
  | [x], i, h => by
    have : i = 0 := by simpa using h
    subst this; rfl
  | x :: y :: r, 0, _ => by simp [sO, HJ]
  | x :: y :: r, i + 1, h => by
    have := uL (y :: r) i (by simpa using h)
    simp [sO, HJ, this]
def GO (P : Program) (r : Nat) (t : TypeId) (len : Nat) (pa : List (Nat × AVal)) : Option Eff := match P.underlying t with
  | some (.slice e) => match (P.info? e).map (·.size), (P.info? e).bind (·.zero) with
    | some k, some z =>
      if Nat.ble (len * k) 4096 && Nat.blt 0 k && z.cells.size == k then
        match Ys (λ i => some (i * k, k)) (List.replicate len (z.cells.toList.map λ x => AVal.d (gN x))).flatten pa with
        | some l => match ALW k len l with
          | some es => some ⟨.own r k 0 len, [(r, .live (.row k len (sO es)))], []⟩
          | none => none
        | none => none
      else none
    | _, _ => none
  | _ => none
theorem vV (z : Array Value) (n k : Nat) (hk : z.size = k) (h0 : 0 < k) : ((Array.range (n * k)).map λ i => z[i % z.size]!).toList = (List.replicate n z.toList).flatten := by
  apply List.ext_getElem?
  intro j
  by_cases hj : j < n * k
  · have hi : j / k < n := by rw [Nat.div_lt_iff_lt_mul h0]; omega
    have hm : j % k < k := Nat.mod_lt _ h0
    have hjj : j / k * k + j % k = j := by rw [Nat.mul_comm]; exact Nat.div_add_mod j k
    have := CW (l := z.toList) (k := k) (by simpa using hk) n (j / k) (j % k) hi hm
    rw [hjj] at this
    rw [this]
    simp [hj, hk, hm]
  · rw [List.getElem?_eq_none (by simp; omega), List.getElem?_eq_none (by simp [hk]; omega)]
theorem sH {r : Nat} {t : TypeId} {len : Nat} {pa : List (Nat × AVal)} {parts : Array (Nat × Value)} {e : Eff} (h : GO P r t len pa = some e) (hr : H r = .none) (hH : HRel B ι H w)
    (hl : parts.size = pa.length) (hp : ∀ (j : Nat) (x : Nat × AVal) (y : Nat × Value), pa[j]? = some x -> parts[j]? = some y -> x.1 = y.1 /\ VRel B ι H.dom x.2 y.2) :
    ∃ y w', (Instr.buildSlice t len parts).run P w = .ok y w' /\ HQ B ι H w (CN H e.upd) e.val y w' := by
  unfold GO at h
  split at h
  · rename_i el hu
    split at h
    · rename_i k z hk hz
      split at h
      · rename_i hc
        simp only [Bool.and_eq_true, beq_iff_eq, Nat.ble_eq, Nat.blt_eq] at hc
        obtain ⟨⟨hc1, hc2⟩, hc3⟩ := hc
        split at h
        · rename_i l hf
          split at h
          · rename_i es he
            cases h
            obtain ⟨ys, h1, h2, h3⟩ := PR (pv := parts.toList) (cs := (Array.range (len * k)).map λ i => z.cells[i % z.cells.size]!) hf (by simpa using hl) (λ j x y hx hy => hp j x y hx (by simpa using hy))
              (by simp [hc3]) (λ j x y hx hy => by
                rw [<- Array.getElem?_toList, vV z.cells len k hc3 hc2] at hy
                have hlt := (List.getElem?_eq_some_iff.1 hx).1
                simp [hc3] at hlt
                have hi : j / k < len := by rw [Nat.div_lt_iff_lt_mul hc2]; omega
                have hm : j % k < k := Nat.mod_lt _ hc2
                have hjj : j / k * k + j % k = j := by rw [Nat.mul_comm]; exact Nat.div_add_mod j k
                rw [<- hjj, CW (by simp [hc3]) len _ _ hi hm] at hx
                rw [<- hjj, CW (by simp [hc3]) len _ _ hi hm] at hy
                simp only [List.getElem?_map, Option.map_eq_some_iff] at hx
                obtain ⟨u, hu, rfl⟩ := hx
                rw [hu] at hy; cases hy
                exact .d (KD _))
            obtain ⟨hn, hes⟩ := Iu he
            have hlen : l.length = len * k := by rw [Wl hf]; simp [hc3]
            have hnz : ¬ len * k > 2 ^ 24 := by omega
            have hkz : (sizeOf el).run P w = .ok k w := CS hk w
            refine ⟨.slice (some ⟨w.heap.size, 0, none⟩) len len, w.alloc (.cells ys el), ?_, ?_⟩
            · have e1 : ∀ zz : Array Value, (len * k = 0 ∨ zz = z.cells) -> Instr.fill (λ i => some (i * k, k)) (Array.map (λ i => zz[i % zz.size]!) (Array.range (len * k))) parts.toList = some ys := by
                rintro zz (h0 | rfl)
                · rw [h0] at h1 ⊢
                  rw [show Array.range 0 = #[] from rfl, Array.map_empty] at h1 ⊢; exact h1
                · exact h1
              by_cases h0 : len * k = 0
              · have h1' := e1 #[] (.inl h0)
                rw [h0] at h1'
                simp [Instr.buildSlice, run_underlying hu, hkz, h0, newRow]
                simp at h1'
                simp [h1']
              · simp only [Instr.buildSlice, Sem.run_bind, run_underlying hu, Result.andThen_ok, hkz, if_neg hnz, if_neg h0, Sem.run_pure, Mg hz, h1, newRow, run_newObj]
                simp
            · obtain ⟨B', ι', m1, m2, m3⟩ := Rb (k := k) (n := len) (get := sO es) (cs := ys) hr hH len el
                (λ i hi => by
                  have : es[i]? = some es[i] := by simp [hn, hi]
                  have h5 := (hes i _ this).1
                  rw [uL es i (by omega)]
                  simpa [List.getD, this] using h5) (Nat.le_refl _) (by omega) (λ i j x y hi hx hy => by
                  have : es[i]? = some es[i] := by simp [hn, hi]
                  refine (h3 (i * k + j) (.d x) y ((hes i _ this).2 j x ?_) hy).d_inv
                  rw [uL es i (by omega)] at hx
                  simpa [List.getD, this] using hx)
              refine ⟨B', ι', m1, ?_⟩
              have := VRel.own (B := B') (ι := ι') (D := (CB H r (.live (.row k len (sO es)))).dom) (k := k) (i := 0) (n := len) (cap := len) m2 (Nat.le_refl _) (by rw [m3]; simp)
              rw [m3, show 0 * k = 0 by simp] at this; exact this
          · cases h
        · cases h
      · cases h
    · cases h
  · cases h
def V3 (P : Program) (r : Nat) (t : TypeId) (len : Nat) (pa : List (Nat × AVal)) : Option Eff := match P.underlying t with
  | some (.slice e) => match (P.info? e).map (·.size), (P.info? e).bind (·.zero) with
    | some k, some z =>
      if Nat.ble (len * k) 4096 && Nat.blt 0 k && z.cells.size == k then
        match Ys (λ i => some (i * k, k)) (List.replicate len (z.cells.toList.map λ x => AVal.d (gN x))).flatten pa with
        | some l => some ⟨.own r k 0 len, [(r, .live (.box l))], []⟩
        | none => none
      else none
    | _, _ => none
  | _ => none
theorem AGE {r : Nat} {t : TypeId} {len : Nat} {pa : List (Nat × AVal)} {parts : Array (Nat × Value)} {e : Eff} (h : V3 P r t len pa = some e) (hr : H r = .none) (hH : HRel B ι H w)
    (hl : parts.size = pa.length) (hp : ∀ (j : Nat) (x : Nat × AVal) (y : Nat × Value), pa[j]? = some x -> parts[j]? = some y -> x.1 = y.1 /\ VRel B ι H.dom x.2 y.2) :
    ∃ y w', (Instr.buildSlice t len parts).run P w = .ok y w' /\ HQ B ι H w (CN H e.upd) e.val y w' := by
  unfold V3 at h
  split at h
  · rename_i el hu
    split at h
    · rename_i k z hk hz
      split at h
      · rename_i hc
        simp only [Bool.and_eq_true, beq_iff_eq, Nat.ble_eq, Nat.blt_eq] at hc
        obtain ⟨⟨hc1, hc2⟩, hc3⟩ := hc
        split at h
        · rename_i l hf
          cases h
          obtain ⟨ys, h1, h2, h3⟩ := PR (pv := parts.toList) (cs := (Array.range (len * k)).map λ i => z.cells[i % z.cells.size]!) hf (by simpa using hl) (λ j x y hx hy => hp j x y hx (by simpa using hy))
            (by simp [hc3]) (λ j x y hx hy => by
              rw [<- Array.getElem?_toList, vV z.cells len k hc3 hc2] at hy
              have hlt := (List.getElem?_eq_some_iff.1 hx).1
              simp [hc3] at hlt
              have hi : j / k < len := by rw [Nat.div_lt_iff_lt_mul hc2]; omega
              have hm : j % k < k := Nat.mod_lt _ hc2
              have hjj : j / k * k + j % k = j := by rw [Nat.mul_comm]; exact Nat.div_add_mod j k
              rw [<- hjj, CW (by simp [hc3]) len _ _ hi hm] at hx
              rw [<- hjj, CW (by simp [hc3]) len _ _ hi hm] at hy
              simp only [List.getElem?_map, Option.map_eq_some_iff] at hx
              obtain ⟨u, hu, rfl⟩ := hx
              rw [hu] at hy; cases hy
              exact .d (KD _))
          have hlen : l.length = len * k := by rw [Wl hf]; simp [hc3]
          have hnz : ¬ len * k > 2 ^ 24 := by omega
          have hkz : (sizeOf el).run P w = .ok k w := CS hk w
          refine ⟨.slice (some ⟨w.heap.size, 0, none⟩) len len, w.alloc (.cells ys el), ?_, ?_⟩
          · have e1 : ∀ zz : Array Value, (len * k = 0 ∨ zz = z.cells) -> Instr.fill (λ i => some (i * k, k)) (Array.map (λ i => zz[i % zz.size]!) (Array.range (len * k))) parts.toList = some ys := by
              rintro zz (h0 | rfl)
              · rw [h0] at h1 ⊢
                rw [show Array.range 0 = #[] from rfl, Array.map_empty] at h1 ⊢; exact h1
              · exact h1
            by_cases h0 : len * k = 0
            · have h1' := e1 #[] (.inl h0)
              rw [h0] at h1'
              simp [Instr.buildSlice, run_underlying hu, hkz, h0, newRow]
              simp at h1'
              simp [h1']
            · simp only [Instr.buildSlice, Sem.run_bind, run_underlying hu, Result.andThen_ok, hkz, if_neg hnz, if_neg h0, Sem.run_pure, Mg hz, h1, newRow, run_newObj]
              simp
          · refine ⟨B, Yl ι r ⟨w.heap.size, len⟩, Moved.new hH hr (.box (by omega) λ j x y hx hy => (h3 j x y hx hy).mono (λ _ _ h => h) (CGY hr)), ?_⟩
            have := VRel.own (B := B) (ι := Yl ι r ⟨w.heap.size, len⟩) (D := (CB H r (.live (.box l))).dom) (id := r) (k := k) (i := 0) (n := len) (cap := len) (AGT _) (Nat.le_refl _) (by rw [DA]; simp)
            rw [DA, show 0 * k = 0 by simp] at this; exact this
        · cases h
      · cases h
    · cases h
  · cases h
theorem Jd {r : Nat} {t : TypeId} {len : Nat} {pa : List (Nat × AVal)} {parts : Array (Nat × Value)} {e : Eff} (h : GO P r t len pa = some e) (hH : HRel B ι H w)
    (hl : parts.size = pa.length) (hp : ∀ (j : Nat) (x : Nat × AVal) (y : Nat × Value), pa[j]? = some x -> parts[j]? = some y -> x.1 = y.1 /\ VRel B ι H.dom x.2 y.2) :
    ∃ k n get y w', e = ⟨.own r k 0 n, [(r, .live (.row k n get))], []⟩ /\ (Instr.buildSlice t len parts).run P w = .ok y w' /\ HQ B ι H w H (.d (.list k n get true)) y w' := by
  unfold GO at h
  split at h
  · rename_i el hu
    split at h
    · rename_i k z hk hz
      split at h
      · rename_i hc
        simp only [Bool.and_eq_true, beq_iff_eq, Nat.ble_eq, Nat.blt_eq] at hc
        obtain ⟨⟨hc1, hc2⟩, hc3⟩ := hc
        split at h
        · rename_i l hf
          split at h
          · rename_i es he
            cases h
            obtain ⟨ys, h1, h2, h3⟩ := PR (pv := parts.toList) (cs := (Array.range (len * k)).map λ i => z.cells[i % z.cells.size]!) hf (by simpa using hl) (λ j x y hx hy => hp j x y hx (by simpa using hy))
              (by simp [hc3]) (λ j x y hx hy => by
                rw [<- Array.getElem?_toList, vV z.cells len k hc3 hc2] at hy
                have hlt := (List.getElem?_eq_some_iff.1 hx).1
                simp [hc3] at hlt
                have hi : j / k < len := by rw [Nat.div_lt_iff_lt_mul hc2]; omega
                have hm : j % k < k := Nat.mod_lt _ hc2
                have hjj : j / k * k + j % k = j := by rw [Nat.mul_comm]; exact Nat.div_add_mod j k
                rw [<- hjj, CW (by simp [hc3]) len _ _ hi hm] at hx
                rw [<- hjj, CW (by simp [hc3]) len _ _ hi hm] at hy
                simp only [List.getElem?_map, Option.map_eq_some_iff] at hx
                obtain ⟨u, hu, rfl⟩ := hx
                rw [hu] at hy; cases hy
                exact .d (KD _))
            obtain ⟨hn, hes⟩ := Iu he
            have hlen : l.length = len * k := by rw [Wl hf]; simp [hc3]
            have hnz : ¬ len * k > 2 ^ 24 := by omega
            have hkz : (sizeOf el).run P w = .ok k w := CS hk w
            refine ⟨k, len, sO es, .slice (some ⟨w.heap.size, 0, none⟩) len len, w.alloc (.cells ys el), rfl, ?_, ?_⟩
            · have e1 : ∀ zz : Array Value, (len * k = 0 ∨ zz = z.cells) -> Instr.fill (λ i => some (i * k, k)) (Array.map (λ i => zz[i % zz.size]!) (Array.range (len * k))) parts.toList = some ys := by
                rintro zz (h0 | rfl)
                · rw [h0] at h1 ⊢
                  rw [show Array.range 0 = #[] from rfl, Array.map_empty] at h1 ⊢; exact h1
                · exact h1
              by_cases h0 : len * k = 0
              · have h1' := e1 #[] (.inl h0)
                rw [h0] at h1'
                simp [Instr.buildSlice, run_underlying hu, hkz, h0, newRow]
                simp at h1'
                simp [h1']
              · simp only [Instr.buildSlice, Sem.run_bind, run_underlying hu, Result.andThen_ok, hkz, if_neg hnz, if_neg h0, Sem.run_pure, Mg hz, h1, newRow, run_newObj]
                simp
            · have hget : ∀ i, i < len -> es[i]? = some (sO es i) := λ i hi => by
                have : es[i]? = some es[i] := by simp [hn, hi]
                rw [uL es i (by omega), List.getD_eq_getElem?_getD, this]; rfl
              refine ⟨_, ι, Moved.newImm hH ys el, .d ?_⟩
              rcases Nat.eq_zero_or_pos len with h0 | h0
              · subst h0; exact .nil (λ _ => rfl) (.inl rfl)
              · refine .list (c := ys) h0 (by simp) (Nat.le_refl _) (λ _ => rfl) (λ i hi => (hes i _ (hget i hi)).1) (by omega) λ i j x y hi hx hy => ?_
                rw [Nat.zero_add] at hy
                exact ((h3 (i * k + j) (.d x) y ((hes i _ (hget i hi)).2 j x hx) hy).d_inv).mono (Moved.newImm hH ys el).bm
          · cases h
        · cases h
      · cases h
    · cases h
  · cases h
end Go.Sym
