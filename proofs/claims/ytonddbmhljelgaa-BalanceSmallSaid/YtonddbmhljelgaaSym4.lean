/- Maps from integers. -/
import Derived.Test.YtonddbmhljelgaaSym3
import Derived.RangeFuncRecord
import Derived.WalkSpells
set_option linter.unusedVariables false
set_option linter.unusedSimpArgs false
namespace Go.Sym
variable {P : Program} {B B' : De} {ι ι' : Nat -> Pl} {H H' : Heap} {D : Nat -> Prop} {w w' : World}
def AJV (P : Program) (t : TypeId) : Option (IntKind × Value) := match P.underlying t with
 | some (.map k e) => match P.underlying k, (P.info? e).bind (·.zero) with
  | some (.int q), some z => some (q, z)
  | _, _ => none
 | _ => none
theorem uM {t : TypeId} {q : IntKind} {z : Value} (h : AJV P t = some (q, z)) : ∃ k e, P.underlying t = some (.map k e) /\ P.underlying k = some (.int q) /\ ∀ w : World, (zeroValue e).run P w = .ok z w := by
 unfold AJV at h
 split at h
 ·rename_i k e hu
  split at h
  ·rename_i q' z' hk hz
   cases h
   refine ⟨k, e, hu, hk, λ w => ?_⟩
   cases hi : P.info? e with
   | none => simp [hi] at hz
   | some i =>
    simp only [hi, Option.bind_some] at hz
    simp [zeroValue, Ru hi, hz]
  ·cases h
 ·cases h
theorem XS {k : TypeId} {q : IntKind} (hk : P.underlying k = some (.int q)) (b : Bool) (v : Value) (w : World) : ∀ n : Nat, 0 < n -> (Instr.checkKey b n k v).run P w = .ok () w
 | 0, h => by omega
 | n + 1, _ => by
  unfold Instr.checkKey
  simp only [Sem.run_bind, run_underlying hk, Result.andThen_ok]
  cases v <;> rfl
def O4 (n : Int) : List MapEntry -> Nat -> Option (Nat × Value)
 | [], _ => none
 | e :: es, i => match e.key with
  | .int _ m => if n = m then some (i, e.val) else O4 n es (i + 1)
  | _ => none
theorem P4 {q q' : IntKind} {n : Int} : ∀ (es : List MapEntry) (i : Nat), (∀ e ∈ es, ∃ m, e.key = .int q m) -> Instr.findNow (.int q') (.int q n) es i = some (O4 n es i)
 | [], _, _ => rfl
 | e :: es, i, h => by
  obtain ⟨m, hm⟩ := h e (by simp)
  unfold Instr.findNow O4
  rw [hm]
  simp only [Instr.sameNow, if_true]
  by_cases hnm : n = m
  ·subst hnm; simp
  ·have : (n == m) = false := by simpa using hnm
   simp only [this, if_neg hnm]
   exact P4 es (i + 1) λ e he => h e (by simp [he])
theorem AAC {n : Int} {q : IntKind} : ∀ (es : List MapEntry) (i : Nat), (∀ e ∈ es, ∃ m, e.key = .int q m) -> (∀ e ∈ es, e.key ≠ .int q n) -> O4 n es i = none
 | [], _, _, _ => rfl
 | e :: es, i, h, hn => by
  obtain ⟨m, hm⟩ := h e (by simp)
  have h1 : n ≠ m := λ he => hn e (by simp) (by rw [hm, he])
  unfold O4
  rw [hm]
  simp only [if_neg h1]
  exact AAC es (i + 1) (λ e he => h e (by simp [he])) λ e he => hn e (by simp [he])
theorem AFZ {n : Int} {q : IntKind} : ∀ (es : List MapEntry) (i : Nat), (∀ e ∈ es, ∃ m, e.key = .int q m) -> ∀ (j : Nat) (e : MapEntry), es[j]? = some e -> e.key = .int q n -> ∃ j' e', O4 n es i = some (i + j', e'.val) /\ es[j']? = some e' /\ e'.key = .int q n
 | [], _, _, j, e, hj, _ => by simp at hj
 | a :: es, i, h, j, e, hj, hk => by
  obtain ⟨m, hm⟩ := h a (by simp)
  unfold O4
  rw [hm]
  by_cases h1 : n = m
  ·subst h1
   exact ⟨0, a, by simp, rfl, hm⟩
  ·simp only [if_neg h1]
   cases j with
   | zero => simp at hj; subst hj; rw [hm] at hk; cases hk; exact (h1 rfl).elim
   | succ j =>
    obtain ⟨j', e', h2, h3, h4⟩ := AFZ es (i + 1) (λ e he => h e (by simp [he])) j e (by simpa using hj) hk
    exact ⟨j' + 1, e', by rw [h2]; simp [Nat.add_assoc, Nat.add_comm 1], by simpa using h3, h4⟩
theorem MapIs.intKeys {q : IntKind} {z : Value} {has : Int -> Bool} {get : Int -> DVal} {st : Int -> Int} {es : Array MapEntry} {clock : Nat} (h : MapIs B q z has get st es clock) : ∀ e ∈ es.toList, ∃ m, e.key = .int q m := λ e he => by
 obtain ⟨i, hi⟩ := List.mem_iff_getElem?.1 he
 rw [Array.getElem?_toList] at hi
 obtain ⟨n, hn, _⟩ := h.keys i e hi
 exact ⟨n, hn⟩
theorem MapIs.find {q q' : IntKind} {z : Value} {has : Int -> Bool} {get : Int -> DVal} {st : Int -> Int} {es : Array MapEntry} {clock : Nat} (h : MapIs B q z has get st es clock) {k : TypeId} (hk : P.underlying k = some (.int q')) (n : Int) (w : World) :
  (has n = false /\ (Instr.findKey k (.int q n) es.toList).run P w = .ok none w) ∨
  (has n = true /\ ∃ i e, es[i]? = some e /\ e.key = .int q n /\ (e.born : Int) = st n /\ DRel B (get n) e.val /\ (Instr.findKey k (.int q n) es.toList).run P w = .ok (some (i, e.val)) w) := by
 have hrun : ∀ r, O4 n es.toList 0 = r -> (Instr.findKey k (.int q n) es.toList).run P w = .ok r w := λ r hr => by
  unfold Instr.findKey
  simp only [Sem.run_bind, run_underlying hk, Result.andThen_ok, P4 es.toList 0 h.intKeys, hr, Sem.run_pure]
 cases hn : has n with
 | false =>
  refine .inl ⟨rfl, hrun _ (AAC (q := q) _ _ h.intKeys λ e he hke => ?_)⟩
  obtain ⟨i, hi⟩ := List.mem_iff_getElem?.1 he
  rw [Array.getElem?_toList] at hi
  obtain ⟨m, h1, h2, _⟩ := h.keys i e hi
  rw [h1] at hke
  cases hke
  rw [hn] at h2; cases h2
 | true =>
  obtain ⟨i, e, hi, hke⟩ := h.met n hn
  obtain ⟨j, e', h1, h2, h3⟩ := AFZ (q := q) es.toList 0 h.intKeys i e (by simpa using hi) hke
  rw [Array.getElem?_toList] at h2
  obtain ⟨m, h4, h5, h6, h7, h8⟩ := h.keys j e' h2
  rw [h3] at h4
  cases h4
  exact .inr ⟨rfl, j, e', h2, h3, h7, h8, hrun _ (by rw [h1]; simp)⟩
theorem Cp {r : Nat} {es : Array MapEntry} {clock : Nat} (h : w.heap[r]? = some (.map es clock)) : (getObj r).run P w = .ok (.map es clock) w := by simp [getObj, Sem.run, h]
theorem Rd {r : Nat} {es : Array MapEntry} {clock : Nat} (o : Obj) (h : w.heap[r]? = some (.map es clock)) : (setObj r o).run P w = .ok () (w.putObj r o) := by simp [setObj, Sem.run, h, World.putObj]
theorem Moved.turn (h : HRel B ι H w) {id : Nat} {o0 o : AObj} (hid : H id = .live o0) {x : Obj} (ho : ORel B ι (FO H id (.live o)).dom (ι id).cap o (some x)) : Moved B ι H w B ι (FO H id (.live o)) (w.putObj (ι id).b x) := by
 have hlt := Dr h hid
 have dm : ∀ i, H.dom i -> (FO H id (.live o)).dom i /\ ι i = ι i := λ i hi => ⟨by
  unfold Heap.dom FO; split
  ·simp
  ·exact hi, rfl⟩
 have live : ∀ i o2, FO H id (.live o) i = .live o2 -> (i = id /\ o2 = o) ∨ (i ≠ id /\ H i = .live o2) := λ i o2 hi => by
  by_cases hii : i = id
  ·subst hii; rw [JQ] at hi; cases hi; exact .inl ⟨rfl, rfl⟩
  ·rw [JB _ _ hii] at hi; exact .inr ⟨hii, hi⟩
 have old : ∀ i o2, FO H id (.live o) i = .live o2 -> ∃ o3, H i = .live o3 := λ i o2 hi => by
  rcases live i o2 hi with ⟨rfl, rfl⟩ | ⟨_, h2⟩
  ·exact ⟨_, hid⟩
  ·exact ⟨_, h2⟩
 have oth : ∀ b, b ≠ (ι id).b -> (w.putObj (ι id).b x).heap[b]? = w.heap[b]? := λ b hb => World.putObj_heap_other hb
 refine ⟨λ _ _ h => h, λ _ _ h => .inl h, dm, ⟨λ i o2 hi => ?_, λ i j o1 o2 hi hj hij => ?_, λ i o2 hi => ?_, λ b c hb => ?_⟩, λ i o2 hi => ?_, λ b hb hno => oth b (λ he => hno id _ hid he.symm), by rw [World.putObj_size]; exact Nat.le_refl _, ⟨rfl, rfl, rfl⟩⟩
 ·rcases live i o2 hi with ⟨rfl, rfl⟩ | ⟨h1, h2⟩
  ·rw [World.putObj_heap_same hlt]; exact ho
  ·rw [oth _ (λ he => h1 (h.inj _ _ _ _ h2 hid he))]
   exact (h.obj i o2 h2).mono (λ _ _ h => h) dm
 ·obtain ⟨_, h1⟩ := old i o1 hi
  obtain ⟨_, h2⟩ := old j o2 hj
  exact h.inj _ _ _ _ h1 h2 hij
 ·obtain ⟨_, h1⟩ := old i o2 hi
  exact h.sep _ _ h1
 ·have : b ≠ (ι id).b := λ he => by rw [he, h.sep id _ hid] at hb; cases hb
  rw [oth b this]; exact h.imm b c hb
 ·obtain ⟨o3, h1⟩ := old i o2 hi
  exact .inl ⟨i, o3, h1, rfl⟩
def ADF (P : Program) (r : Nat) (t : TypeId) : Option Eff := match AJV P t with
 | some (q, z) => some ⟨.mref r, [(r, .live (.imap q z (λ _ => false) (λ _ => ofV z) (λ _ => 0) none))], []⟩
 | none => none
theorem X6 {r : Nat} {t : TypeId} {e : Eff} (h : ADF P r t = some e) (hr : H r = .none) (hH : HRel B ι H w) : ∃ y w', (Instr.makeMap t none).run P w = .ok y w' /\ XC B ι H w (HF H e.upd) e.val y w' := by
 unfold ADF at h
 split at h
 ·rename_i q z hm
  cases h
  refine ⟨.map (some w.heap.size), w.alloc (.map #[] 0), by simp [Instr.makeMap], B, _, Moved.new hH hr (q := 0) (.imap ⟨λ i e he => by simp at he, λ n _ => ⟨AXN z, rfl⟩, λ n hn => by simp at hn, λ i j e e' he => by simp at he⟩), ?_⟩
  have := VRel.mref (B := B) (ι := pT ι r ⟨w.heap.size, 0⟩) (D := (FO H r (.live (.imap q z (λ _ => false) (λ _ => ofV z) (λ _ => 0) none))).dom) (id := r) (by unfold Heap.dom; rw [JQ]; simp)
  rw [IG] at this
  exact this
 ·cases h
def zW (H : Heap) : AVal -> Option (Nat × IntKind × Value × (Int -> Bool) × (Int -> DVal) × (Int -> Int) × Option Int)
 | .mref id => match H id with
  | .live (.imap q z has get st pend) => some (id, q, z, has, get, st, pend)
  | _ => none
 | _ => none
theorem dS {m : AVal} {v : Value} {id : Nat} {q : IntKind} {z : Value} {has : Int -> Bool} {get : Int -> DVal} {st : Int -> Int} {pend : Option Int} (h : zW H m = some (id, q, z, has, get, st, pend)) (hv : VRel B ι H.dom m v) (hH : HRel B ι H w) :
  H id = .live (.imap q z has get st pend) /\ v = .map (some (ι id).b) /\ ∃ es clock, w.heap[(ι id).b]? = some (.map es clock) /\ MapIs B q z has get st es clock := by
 unfold zW at h
 split at h
 ·rename_i id'
  split at h
  ·rename_i q' z' has' get' st' pend' hid
   cases h
   cases hv
   have ho := hH.obj _ _ hid
   generalize hq : w.heap[(ι id).b]? = x at ho
   cases ho with
   | imap hm => exact ⟨hid, rfl, _, _, rfl, hm⟩
  ·cases h
 ·cases h
def keyA (q : IntKind) : AVal -> Option Int
 | .d (.v (.int k n)) => if k = q then some n else none
 | _ => none
theorem uX {q : IntKind} {a : AVal} {n : Int} {v : Value} (h : keyA q a = some n) (hv : VRel B ι D a v) : v = .int q n := by
 unfold keyA at h
 split at h
 ·split at h
  ·rename_i hk; subst hk; cases h; cases hv.d_inv; rfl
  ·cases h
 ·cases h
def U1 (P : Program) (H : Heap) (t : TypeId) (m ix : AVal) (ok : Bool) : Option (AVal × List Prop) := match AJV P t, zW H m with
 | some (q, z), some (_, q', z', has, get, _, _) => match keyA q ix with
  | some n => if q = q' then some (if ok then .d (.tup [get n, .bool (has n)]) else .d (get n), [z = z']) else none
  | none => none
 | _, _ => none
theorem AHW {t : TypeId} {m ix x : AVal} {ok : Bool} {vm vi : Value} {pre : List Prop} (h : U1 P H t m ix ok = some (x, pre)) (hp : DV pre) (hvm : VRel B ι H.dom m vm) (hvi : VRel B ι H.dom ix vi) (hH : HRel B ι H w) :
  ∃ y, (Instr.lookup t vm vi ok).run P w = .ok y w /\ VRel B ι H.dom x y := by
 unfold U1 at h
 split at h
 case h_2 => cases h
 rename_i q z id q' z' has get st pend ht hm
 split at h
 case h_2 => cases h
 rename_i n hn
 split at h
 case isFalse => cases h
 rename_i hq
 subst hq
 cases h
 have hp : z = z' := hp
 subst hp
 obtain ⟨k, e, hu, hk, hz⟩ := uM ht
 obtain ⟨hid, rfl, es, clock, hb, hM⟩ := dS hm hvm hH
 have := uX hn hvi; subst this
 have fin : ∀ (v : Value) (b : Bool), DRel B (get n) v -> has n = b -> VRel B ι H.dom (if ok then .d (.tup [get n, .bool (has n)]) else .d (get n)) (if ok then .tuple #[v, .bool b] else v) := λ v b hv hb => by
  cases ok with
  | false => exact .d hv
  | true =>
   refine .d (.tup rfl λ j x y hx hy => ?_)
   match j with
   | 0 => simp at hx hy; subst hx; subst hy; exact hv
   | 1 => simp at hx hy; subst hx; subst hy; rw [hb]; exact .v _
   | j + 2 => simp at hx
 rcases hM.find hk n w with ⟨h1, h2⟩ | ⟨h1, i, en, _, _, _, h5, h6⟩
 ·refine ⟨_, ?_, fin z false (hM.miss n h1).1 h1⟩
  unfold Instr.lookup
  simp only [Sem.run_bind, run_underlying hu, Result.andThen_ok, Cp hb, Sem.run_pure, XS hk _ _ _ 10000 (by omega), h2, hz w]
 ·refine ⟨_, ?_, fin en.val true h5 h1⟩
  unfold Instr.lookup
  simp only [Sem.run_bind, run_underlying hu, Result.andThen_ok, Cp hb, Sem.run_pure, XS hk _ _ _ 10000 (by omega), h6]
theorem ANJ (j : IntKind) (a : Int) : ∀ n : Nat, Instr.sameBits n (.int j a) (.int j a) = true
 | 0 => by simp [Instr.sameBits]
 | n + 1 => by simp [Instr.sameBits]
theorem A1 (q : IntKind) (n : Int) (w : World) : (Instr.keyThatStays (.int q n) (.int q n)).run P w = .ok (.int q n) w := by
 simp [Instr.keyThatStays, ANJ]
def stUp (has : Int -> Bool) (st : Int -> Int) (n : Int) : Int -> Int := λ j => bif has n then st j else bif (has j || decide (j = n)) then st j else st j + 1
def PR (has : Int -> Bool) (n : Int) : Int -> Bool := λ j => decide (j = n) || has j
def L8 (get : Int -> DVal) (n : Int) (x : DVal) : Int -> DVal := λ j => kV (decide (j = n)) x (get j)
theorem Yp (get : Int -> DVal) (n : Int) (x : DVal) : L8 get n x = λ j => bif decide (j = n) then x else get j := by
 funext j; simp only [L8, TC]
theorem MapIs.push {q : IntKind} {z : Value} {has : Int -> Bool} {get : Int -> DVal} {st : Int -> Int} {es : Array MapEntry} {clock : Nat} (h : MapIs B q z has get st es clock) {n : Int} (hn : has n = false) {x : DVal} {v : Value} (hx : DRel B x v) :
  MapIs B q z (PR has n) (L8 get n x) (stUp has st n) (es.push { key := .int q n, val := v, born := clock }) (clock + 1) := by
 have look : ∀ (i : Nat) (e : MapEntry), (es.push { key := .int q n, val := v, born := clock })[i]? = some e -> (i = es.size /\ e = { key := .int q n, val := v, born := clock }) ∨ es[i]? = some e := λ i e he => by
  rw [Array.getElem?_push] at he
  split at he
  ·rename_i hi; cases he; exact .inl ⟨hi, rfl⟩
  ·exact .inr he
 have ne : ∀ m, has m = true -> m ≠ n := λ m hm he => by rw [he, hn] at hm; cases hm
 refine ⟨λ i e he => ?_, λ m hm => ?_, λ m hm => ?_, λ i j e e' hi hj hij => ?_⟩
 ·rcases look i e he with ⟨_, rfl⟩ | he
  ·exact ⟨n, rfl, by simp [PR], Nat.lt_succ_self _, by simp [stUp, hn, (h.miss n hn).2], by simpa [Yp] using hx⟩
  ·obtain ⟨m, h1, h2, h3, h4, h5⟩ := h.keys i e he
   exact ⟨m, h1, by simp [PR, h2], by omega, by simp [stUp, hn, h2, h4], by simpa [Yp, ne m h2] using h5⟩
 ·simp only [PR, Bool.or_eq_false_iff, decide_eq_false_iff_not] at hm
  obtain ⟨h1, h2⟩ := h.miss m hm.2
  exact ⟨by simpa [Yp, hm.1] using h1, by simp [stUp, hn, hm.2, hm.1, h2]⟩
 ·by_cases hmn : m = n
  ·subst hmn; exact ⟨es.size, { key := .int q m, val := v, born := clock }, by simp, rfl⟩
  ·simp only [PR, hmn, decide_false, Bool.false_or] at hm
   obtain ⟨i, e, hi, hk⟩ := h.met m hm
   exact ⟨i, e, by rw [Array.getElem?_push, if_neg (by have := (Array.getElem?_eq_some_iff.1 hi).1; omega)]; exact hi, hk⟩
 ·rcases look i e hi with ⟨hi1, rfl⟩ | hi1 <;> rcases look j e' hj with ⟨hj1, rfl⟩ | hj1
  ·omega
  ·exfalso
   obtain ⟨m, h1, h2, h3, _⟩ := h.keys j e' hj1
   rcases hij with hij | hij
   ·rw [h1] at hij; injection hij with _ hmn; exact ne m h2 hmn.symm
   ·simp only at hij; omega
  ·exfalso
   obtain ⟨m, h1, h2, h3, _⟩ := h.keys i e hi1
   rcases hij with hij | hij
   ·rw [h1] at hij; injection hij with _ hmn; exact ne m h2 hmn
   ·simp only at hij; omega
  ·exact h.once i j e e' hi1 hj1 hij
theorem MapIs.modify {q : IntKind} {z : Value} {has : Int -> Bool} {get : Int -> DVal} {st : Int -> Int} {es : Array MapEntry} {clock : Nat} (h : MapIs B q z has get st es clock) {n : Int} {i : Nat} {e0 : MapEntry} (hi : es[i]? = some e0) (hk : e0.key = .int q n) (hn : has n = true) {x : DVal} {v : Value} (hx : DRel B x v) :
  MapIs B q z (PR has n) (L8 get n x) (stUp has st n) (es.modify i λ e => { e with key := .int q n, val := v }) clock := by
 have look : ∀ (j : Nat) (e : MapEntry), (es.modify i λ e => { e with key := .int q n, val := v })[j]? = some e -> (j = i /\ e = { e0 with key := .int q n, val := v }) ∨ (j ≠ i /\ es[j]? = some e) := λ j e he => by
  rw [Array.getElem?_modify] at he
  split at he
  ·rename_i hij; subst hij; rw [hi] at he; simp at he; exact .inl ⟨rfl, he.symm⟩
  ·rename_i hij; exact .inr ⟨Ne.symm hij, he⟩
 have hasE : ∀ m, PR has n m = has m := λ m => by
  by_cases hm : m = n
  ·subst hm; simp [PR, hn]
  ·simp [PR, hm]
 have stE : ∀ m, stUp has st n m = st m := λ m => by simp [stUp, hn]
 obtain ⟨m0, a1, a2, a3, a4, _⟩ := h.keys i e0 hi
 rw [hk] at a1; cases a1
 have same : ∀ (j : Nat) (e : MapEntry), es[j]? = some e -> e.key = .int q n -> j = i := λ j e hj hke => h.once j i e e0 hj hi (.inl (by rw [hke, hk]))
 refine ⟨λ j e he => ?_, λ m hm => ?_, λ m hm => ?_, λ j l e e' hj hl hjl => ?_⟩
 ·rcases look j e he with ⟨_, rfl⟩ | ⟨hj, he⟩
  ·exact ⟨n, rfl, by rw [hasE]; exact hn, a3, by rw [stE]; exact a4, by simpa [Yp] using hx⟩
  ·obtain ⟨m, h1, h2, h3, h4, h5⟩ := h.keys j e he
   have hmn : m ≠ n := λ hmn => hj (same j e he (by rw [h1, hmn]))
   exact ⟨m, h1, by rw [hasE]; exact h2, h3, by rw [stE]; exact h4, by simpa [Yp, hmn] using h5⟩
 ·rw [hasE] at hm
  obtain ⟨h1, h2⟩ := h.miss m hm
  have hmn : m ≠ n := λ he => by rw [he, hn] at hm; cases hm
  exact ⟨by simpa [Yp, hmn] using h1, by rw [stE]; exact h2⟩
 ·rw [hasE] at hm
  obtain ⟨j, e, hj, hke⟩ := h.met m hm
  by_cases hji : j = i
  ·subst hji
   rw [hi] at hj; cases hj
   rw [hk] at hke; cases hke
   exact ⟨j, _, by rw [Array.getElem?_modify, if_pos rfl, hi]; rfl, rfl⟩
  ·exact ⟨j, e, by rw [Array.getElem?_modify, if_neg (Ne.symm hji)]; exact hj, hke⟩
 ·rcases look j e hj with ⟨hj1, rfl⟩ | ⟨hj1, hj2⟩ <;> rcases look l e' hl with ⟨hl1, rfl⟩ | ⟨hl1, hl2⟩
  ·omega
  ·exact absurd (h.once i l e0 e' hi hl2 (by rw [hk]; exact hjl)).symm hl1
  ·exact absurd (h.once j i e e0 hj2 hi (by rw [hk]; exact hjl)) hj1
  ·exact h.once j l e e' hj2 hl2 hjl
theorem MapIs.store {q : IntKind} {z : Value} {has : Int -> Bool} {get : Int -> DVal} {st : Int -> Int} {es : Array MapEntry} {clock : Nat} (h : MapIs B q z has get st es clock) {n : Int} {i : Nat} {e0 : MapEntry} (hi : es[i]? = some e0) (hk : e0.key = .int q n) {x : DVal} {v : Value} (hx : DRel B x v) :
  MapIs B q z has (L8 get n x) st (es.modify i λ e => { e with val := v }) clock := by
 obtain ⟨m0, a1, hn, _⟩ := h.keys i e0 hi
 rw [hk] at a1; cases a1
 have h1 := h.modify hi hk hn hx
 have e1 : (es.modify i λ e => { e with key := .int q n, val := v }) = es.modify i λ e => { e with val := v } := by
  apply Array.ext_getElem?
  intro j
  rw [Array.getElem?_modify, Array.getElem?_modify]
  split
  ·rename_i hij; subst hij; rw [hi]; simp only [Option.map_some, Option.some.injEq]; rw [<- hk]
  ·rfl
 have e2 : PR has n = has := by
  funext m
  by_cases hm : m = n
  ·subst hm; simp [PR, hn]
  ·simp [PR, hm]
 have e3 : stUp has st n = st := by funext m; simp [stUp, hn]
 rw [e1, e2, e3] at h1
 exact h1
def oT (P : Program) (H : Heap) (t : TypeId) (m k v : AVal) : Option Eff := match AJV P t, zW H m, v with
 | some (q, _), some (id, q', z, has, get, st, none), .d x => match keyA q k with
  | some n => if q = q' then some ⟨.d (.v undef), [(id, .live (.imap q z (PR has n) (L8 get n x) (stUp has st n) none))], []⟩ else none
  | none => none
 | _, _, _ => none
theorem qQ {t : TypeId} {m k v : AVal} {vm vk vv : Value} {e : Eff} (h : oT P H t m k v = some e) (hH : HRel B ι H w) (hm : VRel B ι H.dom m vm) (hk : VRel B ι H.dom k vk) (hv : VRel B ι H.dom v vv) :
  ∃ w', (Instr.mapUpdate t vm vk vv).run P w = .ok () w' /\ XC B ι H w (HF H e.upd) e.val undef w' := by
 unfold oT at h
 split at h
 case h_2 => cases h
 rename_i q z0 id q' z has get st x ht hma
 split at h
 case h_2 => cases h
 rename_i n hn
 split at h
 case isFalse => cases h
 rename_i hq
 subst hq
 cases h
 obtain ⟨kt, el, hu, hkt, _⟩ := uM ht
 obtain ⟨hid, rfl, es, clock, hb, hM⟩ := dS hma hm hH
 have := uX hn hk; subst this
 rcases hM.find hkt n w with ⟨h1, h2⟩ | ⟨h1, i, en, h3, h4, _, _, h6⟩
 ·refine ⟨_, ?_, B, ι, Moved.turn hH hid (.imap (hM.push h1 hv.d_inv)), .d (.v _)⟩
  unfold Instr.mapUpdate
  simp only [Sem.run_bind, run_underlying hu, Result.andThen_ok, Cp hb, XS hkt _ _ _ 10000 (by omega), h2, Rd _ hb]
 ·refine ⟨_, ?_, B, ι, Moved.turn hH hid (.imap (hM.modify h3 h4 h1 hv.d_inv)), .d (.v _)⟩
  unfold Instr.mapUpdate
  simp only [Sem.run_bind, run_underlying hu, Result.andThen_ok, Cp hb, XS hkt _ _ _ 10000 (by omega), h6, h3, Option.map_some, Option.getD_some, h4, A1, Rd _ hb]
def AOZ (P : Program) (H : Heap) (t : TypeId) (m k : AVal) : Option Eff := match AJV P t, zW H m with
 | some (q, z0), some (id, q', z, has, get, st, none) => match keyA q k with
  | some n => if q = q' then some ⟨.d (.tup [get n, .int (st n)]), [(id, .live (.imap q z (PR has n) (L8 get n (get n)) (stUp has st n) (some n)))], [z0 = z]⟩ else none
  | none => none
 | _, _ => none
theorem ALR {t : TypeId} {m k : AVal} {vm vk : Value} {e : Eff} (h : AOZ P H t m k = some e) (hp : DV e.pre) (hH : HRel B ι H w) (hm : VRel B ι H.dom m vm) (hk : VRel B ι H.dom k vk) :
  ∃ y w', (Instr.mapEntry t vm vk).run P w = .ok y w' /\ XC B ι H w (HF H e.upd) e.val y w' := by
 unfold AOZ at h
 split at h
 case h_2 => cases h
 rename_i q z0 id q' z has get st ht hma
 split at h
 case h_2 => cases h
 rename_i n hn
 split at h
 case isFalse => cases h
 rename_i hq
 subst hq
 cases h
 have hp : z0 = z := hp
 subst hp
 obtain ⟨kt, el, hu, hkt, hz⟩ := uM ht
 obtain ⟨hid, rfl, es, clock, hb, hM⟩ := dS hma hm hH
 have := uX hn hk; subst this
 have pair : ∀ (v : Value) (s : Int), DRel B (get n) v -> s = st n -> DRel B (.tup [get n, .int (st n)]) (.tuple #[v, .int .i64 s]) := λ v s hv hs => .tup rfl λ j x y hx hy => by
  match j with
  | 0 => simp at hx hy; subst hx; subst hy; exact hv
  | 1 => simp at hx hy; subst hx; subst hy; rw [hs]; exact .v _
  | j + 2 => simp at hx
 rcases hM.find hkt n w with ⟨h1, h2⟩ | ⟨h1, i, en, h3, h4, h5, h7, h6⟩
 ·refine ⟨.tuple #[z0, goInt clock], _, ?_, B, ι, Moved.turn hH hid (.imap (hM.push h1 (hM.miss n h1).1)), .d (pair z0 clock (hM.miss n h1).1 (hM.miss n h1).2.symm)⟩
  unfold Instr.mapEntry
  simp only [Sem.run_bind, run_underlying hu, Result.andThen_ok, Cp hb, XS hkt _ _ _ 10000 (by omega), h2, hz w, Rd _ hb, Sem.run_pure]
 ·have e1 : (es.modify i λ e => { e with key := .int q n }) = es.modify i λ e => { e with key := .int q n, val := en.val } := by
   apply Array.ext_getElem?
   intro j
   rw [Array.getElem?_modify, Array.getElem?_modify]
   split
   ·rename_i hij; subst hij; rw [h3]; rfl
   ·rfl
  refine ⟨.tuple #[en.val, goInt en.born], _, ?_, B, ι, Moved.turn hH hid (.imap (hM.modify h3 h4 h1 h7)), .d (pair en.val en.born h7 h5)⟩
  unfold Instr.mapEntry
  simp only [Sem.run_bind, run_underlying hu, Result.andThen_ok, Cp hb, XS hkt _ _ _ 10000 (by omega), h6, h3, Option.map_some, Option.getD_some, h4, A1, Rd _ hb, Sem.run_pure, e1]
def Un (H : Heap) (m s v : AVal) : Option Eff := match zW H m, s, v with
 | some (id, q, z, has, get, st, some n), .d (.v (.int _ j)), .d x => some ⟨.d (.v undef), [(id, .live (.imap q z has (L8 get n x) st none))], [has n = true, j = st n]⟩
 | _, _, _ => none
theorem xD {t : TypeId} {m s v : AVal} {vm vs vv : Value} {e : Eff} (h : Un H m s v = some e) (hp : DV e.pre) (hH : HRel B ι H w) (hm : VRel B ι H.dom m vm) (hs : VRel B ι H.dom s vs) (hv : VRel B ι H.dom v vv) :
  ∃ w', (Instr.entryStore t vm vs vv).run P w = .ok () w' /\ XC B ι H w (HF H e.upd) e.val undef w' := by
 unfold Un at h
 split at h
 case h_2 => cases h
 rename_i id q z has get st n k j x hma
 cases h
 obtain ⟨p1, p2⟩ : has n = true /\ j = st n := hp
 subst p2
 obtain ⟨hid, rfl, es, clock, hb, hM⟩ := dS hma hm hH
 obtain rfl : vs = .int k (st n) := by cases hs.d_inv; rfl
 obtain ⟨i, e0, hi, hke⟩ := hM.met n p1
 obtain ⟨m0, a1, _, _, a4, _⟩ := hM.keys i e0 hi
 rw [hke] at a1; cases a1
 have hfind : es.findIdx? (λ e => (e.born : Int) == st n) = some i := by
  have hlt := (Array.getElem?_eq_some_iff.1 hi).1
  have hei : es[i] = e0 := by have := hi; rw [Array.getElem?_eq_getElem hlt] at this; simpa using this
  refine Array.findIdx?_eq_some_iff_getElem.2 ⟨hlt, by simp [hei, a4], λ l hl => ?_⟩
  have hll : l < es.size := by omega
  simp only [beq_iff_eq]
  intro he
  have := hM.once l i es[l] e0 (by simp [hll]) hi (.inr (by rw [<- a4] at he; exact_mod_cast he))
  omega
 refine ⟨_, ?_, B, ι, Moved.turn hH hid (.imap (hM.store hi hke hv.d_inv)), .d (.v _)⟩
 unfold Instr.entryStore
 simp only [Sem.run_bind, Result.andThen_ok, Cp hb, asInt, asIntOf, Sem.run_pure, hfind, Rd _ hb]
end Go.Sym

namespace Go.Sym
variable {P : Program} {B B' : De} {ι ι' : Nat -> Pl} {H H' : Heap} {D : Nat -> Prop} {w w' : World}
def ALU : Operand -> Bool
 | .const (.slice none _ _) => true
 | _ => false
def nilA : AVal -> Option (Bool × List Prop)
 | .own _ _ _ _ => some (false, [])
 | .d (.v (.slice none _ _)) => some (true, [])
 | .d (.v (.slice (some _) _ _)) => some (false, [])
 | .d (.list _ n _ _) => some (false, [0 < n])
 | _ => none
theorem eH {a : AVal} {b : Bool} {pre : List Prop} {v : Value} (h : nilA a = some (b, pre)) (hp : DV pre) (hv : VRel B ι D a v) : ∃ base n cap, v = .slice base n cap /\ base.isNone = b := by
 unfold nilA at h
 split at h
 ·cases h; cases hv; exact ⟨_, _, _, rfl, rfl⟩
 ·cases h; cases hv.d_inv; exact ⟨_, _, _, rfl, rfl⟩
 ·cases h; cases hv.d_inv; exact ⟨_, _, _, rfl, rfl⟩
 ·cases h
  have hp : 0 < _ := hp
  cases hv.d_inv with
  | nil => omega
  | list => exact ⟨_, _, _, rfl, rfl⟩
 ·cases h
def AMS (P : Program) (op : BinOp) (t : TypeId) (a : AVal) : Option (Bool × List Prop) := match P.underlying t, op, nilA a with
 | some (.slice _), .eql, some (b, p) => some (b, p)
 | some (.slice _), .neq, some (b, p) => some (!b, p)
 | _, _, _ => none
theorem AKZ {op : BinOp} {t : TypeId} {a : AVal} {b : Bool} {pre : List Prop} {v : Value} {n' c' : Nat} (h : AMS P op t a = some (b, pre)) (hp : DV pre) (hv : VRel B ι D a v) (w : World) :
  (binOp op t v (.slice none n' c')).run P w = .ok (.bool b) w := by
 unfold AMS at h
 split at h
 ·rename_i e b' p hu hn
  cases h
  obtain ⟨base, n, cap, rfl, rfl⟩ := eH hn hp hv
  exact Lib.run_eql_slice_nil w t e base n cap n' c' hu
 ·rename_i e b' p hu hn
  cases h
  obtain ⟨base, n, cap, rfl, rfl⟩ := eH hn hp hv
  exact run_neq_slice_nil_any w t e base n cap n' c' hu
 ·cases h
def Ps (P : Program) (H : Heap) (t : TypeId) (x : AVal) : Option AVal := match P.underlying t, x with
 | some (.array m e), .rptr id k 0 0 => match H id with
  | .live (.row k' n _) => if k == k' && m == n && szT P e == some k then some (.own id k 0 n) else none
  | _ => none
 | _, _ => none
theorem R4 {t : TypeId} {x q : AVal} {v : Value} (h : Ps P H t x = some q) (hv : VRel B ι H.dom x v) (hH : HRel B ι H w) : ∃ y, (Instr.sliceAt t v none none none).run P w = .ok y w /\ VRel B ι H.dom q y := by
 unfold Ps at h
 split at h
 ·rename_i m e id k hu
  split at h
  ·rename_i k' n get hid
   split at h
   ·rename_i hc
    cases h
    simp only [Bool.and_eq_true, beq_iff_eq] at hc
    obtain ⟨⟨rfl, rfl⟩, hs⟩ := hc
    have ho := hH.obj _ _ hid
    generalize w.heap[(ι id).b]? = qq at ho
    cases hv
    rename_i hD
    cases ho with
    | row hkk hn hsz hrel =>
     refine ⟨.slice (some ⟨(ι id).b, 0 * k, none⟩) m m, ?_, .own hD (Nat.le_refl _) (by omega)⟩
     have hs' : (sizeOf e).run P w = .ok k w := HG (by unfold szT at hs; simpa using hs) w
     simp [Instr.sliceAt, run_underlying hu, Instr.sureAddr, Instr.sliceBounds, hs', Kr]
   ·cases h
  ·cases h
 ·cases h
def Zf (P : Program) (H : Heap) (t : TypeId) (x : AVal) (lo hi mx : Option AVal) : Option Eff := match P.underlying t, x, mx with
 | some (.slice e), .own id k 0 n, some (.d (.v (.int _ m))) => match H id, lL 0 lo, hi with
  | .live (.row k' n' get), some l, some (.d (.v (.int _ h))) => if szT P e == some k && k == k' then
    some ⟨.d (.list k (h.toNat - l.toNat) (λ i => get (l.toNat + i)) true), [(id, .dead)], [0 <= l /\ l <= h /\ h = m /\ h <= n /\ n <= n']⟩ else none
  | _, _, _ => none
 | _, _, _ => none
theorem ADY {t : TypeId} {x : AVal} {lo hi mx : Option AVal} {e : Eff} {v : Value} {lov hiv mxv : Option Value} (h : Zf P H t x lo hi mx = some e) (hp : DV e.pre) (hv : VRel B ι H.dom x v) (hH : HRel B ι H w)
  (hlo : ∀ x, lo = some x -> ∃ y, lov = some y /\ VRel B ι H.dom x y) (hlo0 : lo = none -> lov = none) (hhi : ∀ x, hi = some x -> ∃ y, hiv = some y /\ VRel B ι H.dom x y) (hmx : ∀ x, mx = some x -> ∃ y, mxv = some y /\ VRel B ι H.dom x y) :
  ∃ y, (Instr.sliceAt t v lov hiv mxv).run P w = .ok y w /\ XC B ι H w (HF H e.upd) e.val y w := by
 unfold Zf at h
 split at h
 case h_2 => cases h
 rename_i el id k n km m hu
 split at h
 case h_2 => cases h
 rename_i k' n' get l kh hh hid hl
 split at h
 case isFalse => cases h
 rename_i hc
 simp only [Bool.and_eq_true, beq_iff_eq] at hc
 obtain ⟨hs, rfl⟩ := hc
 cases h
 obtain ⟨p1, p2, rfl, p3, p4⟩ := hp
 have b1 := TX hl hlo hlo0
 obtain ⟨y2, rfl, hy2⟩ := hhi _ rfl
 obtain ⟨y3, rfl, hy3⟩ := hmx _ rfl
 obtain rfl : y2 = .int kh hh := by cases hy2.d_inv; rfl
 obtain rfl : y3 = .int km hh := by cases hy3.d_inv; rfl
 have hs' : (sizeOf el).run P w = .ok k w := HG (by unfold szT at hs; simpa using hs) w
 obtain ⟨c, ty, h1, h2, h3, h4, h5, h6⟩ := Moved.freeze hH hid
 cases hv
 rename_i cap hD hq hcap
 have hB : (λ b => if b = (ι id).b then some c else B b) (ι id).b = some c := by simp
 have hd : DRel (λ b => if b = (ι id).b then some c else B b) (.list k n get false) (.slice (some ⟨(ι id).b, 0 * k, none⟩) n cap) := by
  rcases Nat.eq_zero_or_pos n with h0 | h0
  ·subst h0; exact .nil (λ h => by cases h) (.inr (by simp))
  ·have e1 : n * k <= n' * k := Nat.mul_le_mul_right k p4
   have e2 : n' * k <= (ι id).cap * k := Nat.mul_le_mul_right k h3
   exact .list h0 hB hcap (λ h => by cases h) (λ i hi => h5 i (by omega)) (by omega) λ i j x y hi hx hy => (h6 i j x y (by omega) hx (by simpa using hy)).mono h2.bm
 have hsub := Z5 (l := l.toNat) (h := hh.toNat) (m := hh.toNat) hd (by omega) (by omega) (by omega) (by omega)
 refine ⟨_, by simp only [Instr.sliceAt, Sem.run_bind, run_underlying hu, Result.andThen_ok, Instr.slice, N7 b1 p1 p2 p3 hcap, hs', Sem.run_pure]; rfl, _, ι, h2, ?_⟩
 have e1 : decide (hh.toNat = hh.toNat) = true := by simp
 rw [e1] at hsub
 exact .d hsub
def BBU (P : Program) (H : Heap) (t : TypeId) (d x : AVal) : Option Eff := match P.underlying t, d, srcA H x with
 | some (.slice e), .own id k 0 n, some (k2, m, LU, p2) => match H id with
  | .live (.row k' n' get) => if szT P e == some k && k == k' && !(idsTopC x).contains id && Nat.blt 0 k then
    some ⟨.int ((min m n : Nat) : Int), [(id, .live (.row k n' λ j => kV (decide (j < min m n)) (LU j) (get j)))], [p2 /\ (0 < m -> k2 = k), n <= n']⟩ else none
  | _ => none
 | _, _, _ => none
where
 idsTopC : AVal -> List Nat
  | .own id _ _ _ => [id]
  | _ => []
theorem AQE {t ty : TypeId} {ats : Array TypeId} {d x : AVal} {vd vx : Value} {e : Eff} (h : BBU P H t d x = some e) (hp : DV e.pre) (h0 : ats[0]? = some t) (hd : VRel B ι H.dom d vd) (hx : VRel B ι H.dom x vx) (hH : HRel B ι H w) :
  ∃ y w', (Builtin.copy_ ats ty #[vd, vx]).run P w = .ok y w' /\ XC B ι H w (HF H e.upd) e.val y w' := by
 unfold BBU at h
 split at h
 case h_2 => cases h
 rename_i el id k n k2 m LU p2 hu hsrc
 split at h
 case h_2 => cases h
 rename_i k' n' get hid
 split at h
 case isFalse => cases h
 rename_i hc
 simp only [Bool.and_eq_true, beq_iff_eq, Nat.blt_eq] at hc
 obtain ⟨⟨⟨hs, rfl⟩, hdisj⟩, hk0⟩ := hc
 cases h
 obtain ⟨⟨p2, p3⟩, p4⟩ : (p2 /\ (0 < m -> k2 = k)) /\ n <= n' := hp
 obtain ⟨base, cap2, news, hS⟩ := tR hsrc p2 hx hH
 have hs' : (sizeOf el).run P w = .ok k w := HG (by unfold szT at hs; simpa using hs) w
 have ho := hH.obj _ _ hid
 generalize hq : w.heap[(ι id).b]? = qq at ho
 cases hd
 rename_i cap hD hcap hcq
 cases ho with
 | row hkk hn hsz hrel =>
  rename_i c ety
  have hlen : news.length = m * k := by
   rcases Nat.eq_zero_or_pos m with h | h
   ·subst h; simpa using hS.len
   ·rw [hS.len, p3 h]
  -- the cells that are copied
  have hmk : min m n * k <= m * k := Nat.mul_le_mul_right k (Nat.min_le_left _ _)
  have hnk : min m n * k <= n * k := Nat.mul_le_mul_right k (Nat.min_le_right _ _)
  have hn1 : n * k <= n' * k := Nat.mul_le_mul_right k p4
  have hn2 : n' * k <= (ι id).cap * k := Nat.mul_le_mul_right k hn
  have hfirst : (Builtin.firstCells k (min m n) vx).run P w = .ok (news.take (min m n * k)).toArray w := by
   rw [hS.val]
   cases base with
   | none =>
    have hm : m = 0 := by
     rcases Nat.eq_zero_or_pos m with h | h
     ·exact h
     ·obtain ⟨b, o, hb⟩ := hS.some h; cases hb
    subst hm
    simp [Builtin.firstCells]
   | some a =>
    have hl := run_loadCells (P := P) w a (min m n * k) (λ j => news.getD j undef) (λ j hj => by
     have hj' : j < news.length := by omega
     rw [hS.cells a rfl j news[j] (by simp [hj'])]
     simp [hj'])
    have e1 : (List.range (min m n * k)).map (λ j => news.getD j undef) = news.take (min m n * k) := by
     apply List.ext_getElem?
     intro j
     rw [List.getElem?_map, List.getElem?_take]
     by_cases hj : j < min m n * k
     ·have hj' : j < news.length := by omega
      simp [hj, hj']
     ·simp [hj]
    rw [e1] at hl
    exact hl
  have hone : ∀ u ∈ news.take (min m n * k), u.oneCell' = true := λ u hu => by
   obtain ⟨j, hj⟩ := List.mem_iff_getElem?.1 hu
   have hjl := (List.getElem?_eq_some_iff.1 hj).1
   simp only [List.length_take] at hjl
   rw [List.getElem?_take, if_pos (by omega)] at hj
   have hm : 0 < m := by
    rcases Nat.eq_zero_or_pos m with h | h
    ·subst h; simp at hlen; simp [hlen] at hj
    ·exact h
   have hk2 := p3 hm
   subst hk2
   have hjj : j / k2 * k2 + j % k2 = j := by rw [Nat.mul_comm]; exact Nat.div_add_mod j k2
   have hi : j / k2 < m := by rw [Nat.div_lt_iff_lt_mul hk0]; omega
   have hmod : j % k2 < k2 := Nat.mod_lt _ hk0
   have hlt : j % k2 < (LU (j / k2)).cells1.length := by rw [(hS.ok _ hi).len]; exact hmod
   have := hS.rel (j / k2) (j % k2) (LU (j / k2)).cells1[j % k2] u hi (by simp) (by rw [hjj]; exact hj)
   exact Kx (B := B) (ι := λ _ => ⟨0, 0⟩) (D := λ _ => True) (As (hS.ok _ hi).one _ (List.getElem_mem hlt)) (.d this)
  have hstore := gS (P := P) (o := 0) (vs := news.take (min m n * k)) hq (by simp only [List.length_take]; omega) hone
  refine ⟨.int .i64 ((min m n : Nat) : Int), w.setRow (ι id).b (c.toList.take 0 ++ news.take (min m n * k) ++ c.toList.drop (0 + (news.take (min m n * k)).length)).toArray, ?_, ?_⟩
  ·have hlen2 : (Builtin.lenOf vx).run P w = .ok m w := by rw [hS.val]; rfl
   unfold Builtin.copy_
   simp only [h0, List.getElem?_toArray, List.getElem?_cons_zero, List.getElem?_cons_succ, Sem.run_bind, run_underlying hu, Result.andThen_ok, hlen2, hs']
   rw [show Nat.min m n = min m n from rfl, hfirst]
   simp only [Result.andThen_ok, show (0 : Nat) * k = 0 by simp, hstore, Sem.run_pure, goInt]
  ·have hrow : ORel B ι H.dom (ι id).cap (.row k n' λ j => kV (decide (j < min m n)) (LU j) (get j))
     (some (.cells (c.toList.take 0 ++ news.take (min m n * k) ++ c.toList.drop (0 + (news.take (min m n * k)).length)).toArray ety (0, 0))) := by
    have hl : (news.take (min m n * k)).length = min m n * k := by simp only [List.length_take]; omega
    refine .row (λ i hi => ?_) hn (by simp only [List.size_toArray, List.length_append, List.length_take, List.length_drop, Array.length_toList]; omega) λ i j x y hi hx hy => ?_
    ·rw [TC]
     by_cases h : i < min m n
     ·have hm : i < m := by omega
      simp only [h, decide_true, cond_true]
      have := hS.ok i hm
      rw [p3 (by omega)] at this; exact this
     ·simp only [h, decide_false, cond_false]; exact hkk i hi
    ·rw [TC] at hx
     rw [List.getElem?_toArray, hl] at hy
     rw [RD hl (by simp only [Array.length_toList]; omega)] at hy
     have hlt := (List.getElem?_eq_some_iff.1 hx).1
     by_cases h : i < min m n
     ·have hm : i < m := by omega
      simp only [h, decide_true, cond_true] at hx hlt
      have hk2 := p3 (by omega)
      subst hk2
      rw [(hS.ok i hm).len] at hlt
      have e1 : (i + 1) * k2 <= min m n * k2 := Nat.mul_le_mul_right k2 h
      have e2 : (i + 1) * k2 = i * k2 + k2 := Nat.succ_mul i k2
      rw [if_pos (by omega), List.getElem?_take, if_pos (by omega)] at hy
      exact hS.rel i j x y hm hx (by simpa using hy)
     ·simp only [h, decide_false, cond_false] at hx hlt
      have e1 : min m n * k <= i * k := Nat.mul_le_mul_right k (by omega)
      rw [if_neg (by omega)] at hy
      exact hrel i j x y hi hx (by simpa using hy)
   obtain ⟨B', ι', m1, _⟩ := pM hH hid hq hrow
   exact ⟨B', ι', m1, .d (.v _)⟩
end Go.Sym

namespace Go.Sym
variable {P : Program} {B B' : De} {ι ι' : Nat -> Pl} {H H' : Heap} {D : Nat -> Prop} {w w' : World}
def Eff.of (r : Option (AVal × List Prop)) : Option Eff := match r with
 | some (a, p) => some ⟨a, [], p⟩
 | none => none
def Eff.one (r : Option AVal) : Option Eff := match r with
 | some a => some ⟨a, [], []⟩
 | none => none
def BFP : AVal -> Bool
 | .bptr .. | .rptr .. | .d (.eref ..) => true
 | _ => false
def X9 (P : Program) (mt : Bool) (r : Nat) (H : Heap) (b : Builtin) (ats : Array TypeId) (args : List AVal) : Option Eff := match b, args with
 | .len, [a] => match ats[0]? with
  | some t => Eff.one (lenA P t a)
  | none => none
 | .append, [s, x] => match ats.toList with
  | [t, t2] => zC P H r mt t t2 s x
  | _ => none
 | .copy, [d, x] => match ats[0]? with
  | some t => BBU P H t d x
  | none => none
 | .min, l => Eff.one (foldA minI l)
 | .max, l => Eff.one (foldA maxI l)
 | _, _ => none
def DO : AVal -> AVal
 | .opt _ v => v
 | v => v
def Qr (c : Prop) : AVal -> List Prop
 | .opt g _ => [c -> g = true]
 | _ => []
theorem XZ {c : Prop} {a : AVal} {y : Value} (hc : c) (h : DV (Qr c a)) (hv : VRel B ι D a y) : VRel B ι D (DO a) y := by
 cases hv with
 | opt h1 h2 => exact h1 (h hc)
 | d h => exact .d h
 | agg a b => exact .agg a b
 | tup a b => exact .tup a b
 | bptr a => exact .bptr a
 | rptr a => exact .rptr a
 | own a b c => exact .own a b c
 | fn a b c d => exact .fn a b c d
 | mref a => exact .mref a
 | any => exact .any
theorem MD {p : Prop} {r : List Prop} : DV (p :: r) ↔ p /\ DV r := by
 cases r with
 | nil => simp [DV]
 | cons q r => rfl
theorem BR : ∀ {a b : List Prop}, DV (a ++ b) -> DV a /\ DV b
 | [], b, h => ⟨trivial, h⟩
 | p :: a, b, h => by
  have h : DV (p :: (a ++ b)) := h
  rw [MD] at h
  obtain ⟨h1, h2⟩ := BR h.2
  exact ⟨MD.2 ⟨h.1, h1⟩, h2⟩
def opA (P : Program) (mt : Bool) (r : Nat) (ρ : Operand -> AVal) (H : Heap) : Op -> Option Eff
 | .move x | .assign x => some ⟨ρ x, [], []⟩
 | .pick c a b => match ρ c with
  | .d (.v (.bool t)) => some ⟨ACO t (DO (ρ a)) (DO (ρ b)), [], Qr (t = true) (ρ a) ++ Qr (t = false) (ρ b)⟩
  | _ => none
 | .alloc t => AVT P r t
 | .box _ x => boxA r (ρ x)
 | .build t ps => Eff.of (ATF P t (ps.toList.map λ p => (p.1, ρ p.2)))
 | .buildSlice t len ps => match WF P r t len (ps.toList.map λ p => (p.1, ρ p.2)) with
  | some e => some e
  | none => G4 P r t len (ps.toList.map λ p => (p.1, ρ p.2))
 | .load t a => Eff.of (AHS P H t (ρ a))
 | .store t a x => F2 P H t (ρ a) (ρ x)
 | .nilCheck x => if BFP (ρ x) then some ⟨ρ x, [], []⟩ else none
 | .binOp op t x y _ => if ALU y then Eff.of ((AMS P op t (ρ x)).map λ (b, p) => (.bool b, p)) else match ρ x, ρ y with
  | .d (.v a), .d (.v b) => match binV P op t a b with
   | some (v, p) => some ⟨.d (.v v), [], p⟩
   | none => none
  | a, b => match op, eqA P t a b with
   | .eql, some r => some ⟨.bool r, [], []⟩
   | .neq, some r => some ⟨.bool (!r), [], []⟩
   | _, _ => none
 | .unOp op _ x => match ρ x with
  | .d (.v a) => match unV op a with
   | some v => some ⟨.d (.v v), [], []⟩
   | none => none
  | _ => none
 | .convert s d x => Eff.one (AFP P s d (ρ x))
 | .makeFunc fn first caps => some ⟨.fn fn (first.toList.map ρ) (caps.toList.map ρ), [], []⟩
 | .makeSlice t l c => sZ P r t (ρ l) (ρ c)
 | .slice t x lo hi mx => match ATY P t (ρ x) (lo.map ρ) (hi.map ρ) (mx.map ρ) with
  | some (a, p) => some ⟨a, [], p⟩
  | none => match lo, hi, mx with
   | none, none, none => Eff.one (Ps P H t (ρ x))
   | lo, hi, mx => Zf P H t (ρ x) (lo.map ρ) (hi.map ρ) (mx.map ρ)
 | .makeMap t h => match h with
  | none => ADF P r t
  | some _ => none
 | .lookup t m ix ok => Eff.of (U1 P H t (ρ m) (ρ ix) ok)
 | .mapUpdate t m k x => oT P H t (ρ m) (ρ k) (ρ x)
 | .insert t m k x => oT P H t (ρ m) (ρ k) (ρ x)
 | .mapEntry t m k => AOZ P H t (ρ m) (ρ k)
 | .entryStore _ m s x => Un H (ρ m) (ρ s) (ρ x)
 | .fieldAddr s x f => Eff.one (vI P s f (ρ x))
 | .field s x f => Eff.one (AUV P s f (ρ x))
 | .indexAddr t x ix => Eff.of (rM P t (ρ x) (ρ ix))
 | .index t x ix => Eff.of (AVH P t (ρ x) (ρ ix))
 | .extract x i => Eff.one (ACU (ρ x) i)
 | .call c => match c.callee with
  | .builtin b => X9 P mt r H b c.argTypes (c.args.toList.map ρ)
  | _ => none
 | _ => none
def Runs (P : Program) (ρ : Operand -> Value) (o : Oper) (w : World) (y : Value) (w' : World) : Prop :=
 (execOp ρ o).run P w = .ok (.value y) w' ∨ ((execOp ρ o).run P w = .ok .skip w' /\ y = undef)
theorem DRel.v_inv {x y : Value} (h : DRel B (.v x) y) : y = x := by cases h; rfl
theorem DK (hH : HRel B ι H w) {a : AVal} {y : Value} (h : VRel B ι H.dom a y) : XC B ι H w (HF H []) a y w := ⟨B, ι, Moved.refl hH, h⟩
theorem pH {α β : Type} {f : α -> β} {l : List α} {j : Nat} {y : β} (h : (l.map f)[j]? = some y) : ∃ x, l[j]? = some x /\ f x = y := by
 simpa [List.getElem?_map, Option.map_eq_some_iff] using h
theorem AIQ {mt : Bool} {r : Nat} {ρA : Operand -> AVal} {ρ : Operand -> Value} {o : Oper} {e : Eff} (h : opA P mt r ρA H o.op = some e) (hp : DV e.pre) (hρ : ∀ x, VRel B ι H.dom (ρA x) (ρ x)) (hcv : ∀ v, ρ (.const v) = v) (hr : H r = .none) (hH : HRel B ι H w) :
  ∃ y w', Runs P ρ o w y w' /\ XC B ι H w (HF H e.upd) e.val y w' := by
 obtain ⟨dst, op, type, pos, after, guard⟩ := o
 simp only at h
 have val : ∀ {s : Sem Value} {y : Value} {w' : World}, s.run P w = .ok y w' -> (do pure (Next.value (<- s)) : Sem Next).run P w = .ok (.value y) w' := λ hs => by simp [hs]
 have maps : ∀ (l : Array Operand), (l.map ρ).size = (l.toList.map ρA).length /\ ∀ (j : Nat) (a : AVal) (y : Value), (l.toList.map ρA)[j]? = some a -> (l.map ρ)[j]? = some y -> VRel B ι H.dom a y := λ l =>
  ⟨by simp, λ j a y ha hy => by
   obtain ⟨x, hx, rfl⟩ := pH ha
   rw [Array.getElem?_toList] at hx
   simp [hx] at hy
   subst hy; exact hρ x⟩
 have pmaps : ∀ (l : Array (Nat × Operand)), (l.map λ x => (x.1, ρ x.2)).size = (l.toList.map λ p => (p.1, ρA p.2)).length /\ ∀ (j : Nat) (a : Nat × AVal) (y : Nat × Value), (l.toList.map λ p => (p.1, ρA p.2))[j]? = some a -> (l.map λ x => (x.1, ρ x.2))[j]? = some y -> a.1 = y.1 /\ VRel B ι H.dom a.2 y.2 := λ l =>
  ⟨by simp, λ j a y ha hy => by
   obtain ⟨x, hx, rfl⟩ := pH ha
   rw [Array.getElem?_toList] at hx
   simp [hx] at hy
   subst hy; exact ⟨rfl, hρ x.2⟩⟩
 cases op <;> simp only [opA] at h <;> try (cases h; done)
 case move x => cases h; exact ⟨ρ x, w, .inl rfl, DK hH (hρ x)⟩
 case assign x => cases h; exact ⟨ρ x, w, .inl rfl, DK hH (hρ x)⟩
 case pick c a b =>
  split at h
  ·rename_i t hc
   cases h
   have := hρ c
   rw [hc] at this
   have hcv : ρ c = .bool t := this.d_inv.v_inv
   refine ⟨if t then ρ a else ρ b, w, .inl (by simp [execOp, hcv, asBool]), DK hH ?_⟩
   simp only [AQW]
   obtain ⟨hp1, hp2⟩ := BR hp
   cases t
   ·exact XZ rfl hp2 (hρ b)
   ·exact XZ rfl hp1 (hρ a)
  ·cases h
 case alloc t =>
  obtain ⟨y, w', h1, h2⟩ := AOP h hp hr hH
  exact ⟨y, w', .inl (val h1), h2⟩
 case box t x =>
  obtain ⟨y, w', h1, h2⟩ := ATX (P := P) (t := t) h hr hH (hρ x)
  exact ⟨y, w', .inl (val h1), h2⟩
 case build t ps =>
  unfold Eff.of at h; split at h
  ·rename_i a p hb
   cases h
   obtain ⟨y, h1, h2⟩ := AMQ hb hp (pmaps ps).1 (pmaps ps).2 w
   exact ⟨y, w, .inl (val h1), DK hH h2⟩
  ·cases h
 case buildSlice t len ps =>
  split at h
  ·rename_i e0 hb
   cases h
   obtain ⟨y, w', h1, h2⟩ := wS hb hr hH (pmaps ps).1 (pmaps ps).2
   exact ⟨y, w', .inl (val h1), h2⟩
  ·obtain ⟨y, w', h1, h2⟩ := Q9 h hr hH (pmaps ps).1 (pmaps ps).2
   exact ⟨y, w', .inl (val h1), h2⟩
 case load t a =>
  unfold Eff.of at h; split at h
  ·rename_i x p hb
   cases h
   obtain ⟨y, h1, h2⟩ := P6 hb hp (hρ a) hH
   exact ⟨y, w, .inl (val h1), DK hH h2⟩
  ·cases h
 case store t a x =>
  obtain ⟨w', h1, h2⟩ := AMZ h hp hH (hρ a) (hρ x)
  refine ⟨undef, w', .inr ⟨by simp [execOp, h1], rfl⟩, ?_⟩
  have : e.val = .d (.v undef) := by
   unfold F2 at h
   split at h <;> (try (split at h)) <;> (try (split at h)) <;> first | (cases h; rfl) | cases h
  rw [this] at h2 ⊢; exact h2
 case nilCheck x =>
  split at h
  ·rename_i hx
   cases h
   refine ⟨ρ x, w, .inl ?_, DK hH (hρ x)⟩
   have hv := hρ x
   generalize ρA x = a at hv hx
   have : ∃ b, ρ x = .pointer (some b) := by
    generalize ρ x = v at hv
    cases hv with
    | bptr => exact ⟨_, rfl⟩
    | rptr => exact ⟨_, rfl⟩
    | d hd => cases hd <;> simp [BFP] at hx; exact ⟨_, rfl⟩
    | _ => simp [BFP] at hx
   obtain ⟨b, hb⟩ := this
   simp [execOp, hb]
  ·cases h
 case binOp op t x y yt =>
  split at h
  ·rename_i hy
   obtain ⟨n', c', hyv⟩ : ∃ n' c', ρ y = .slice none n' c' := by
    cases y with
    | const v =>
     rw [hcv]
     cases v with
     | slice base n c =>
      cases base with
      | none => exact ⟨n, c, rfl⟩
      | some a => simp [ALU] at hy
     | _ => simp [ALU] at hy
    | _ => simp [ALU] at hy
   unfold Eff.of at h; split at h
   ·rename_i a p hb
    cases h
    rw [Option.map_eq_some_iff] at hb
    obtain ⟨⟨b, p'⟩, hb, he⟩ := hb
    cases he
    obtain ⟨base, n, c, hx⟩ : ∃ base n c, ρ x = .slice base n c := by
     unfold AMS at hb
     split at hb
     ·rename_i hn; cases hb; obtain ⟨base, n, c, h1, _⟩ := eH hn hp (hρ x); exact ⟨base, n, c, h1⟩
     ·rename_i hn; cases hb; obtain ⟨base, n, c, h1, _⟩ := eH hn hp (hρ x); exact ⟨base, n, c, h1⟩
     ·cases hb
    have h1 := AKZ (n' := n') (c' := c') hb hp (hρ x) w
    have hg : (eqGuard op t x y (ρ x) (ρ y)).run P w = .ok () w := by
     rw [hx, hyv]
     unfold eqGuard
     split <;> rfl
    refine ⟨.bool b, w, .inl ?_, DK hH (.d (.v _))⟩
    rw [show execOp ρ ⟨dst, .binOp op t x y yt, type, pos, after, guard⟩ = (do pure (.value (<- (do eqGuard op t x y (ρ x) (ρ y); binOp op t (ρ x) (ρ y))))) from rfl]
    rw [hyv] at hg ⊢
    simp only [Sem.run_bind, hg, h1, Result.andThen_ok, Sem.run_pure]
   ·cases h
  split at h
  ·rename_i a b ha hb
   split at h
   ·rename_i v p hv
    cases h
    have h1 := hρ x; have h2 := hρ y
    rw [ha] at h1; rw [hb] at h2
    have h1 : ρ x = a := h1.d_inv.v_inv
    have h2 : ρ y = b := h2.d_inv.v_inv
    have := ATG (x := x) (y := y) hv hp w
    exact ⟨v, w, .inl (by rw [show execOp ρ ⟨dst, .binOp op t x y yt, type, pos, after, guard⟩ = (do pure (.value (<- (do eqGuard op t x y (ρ x) (ρ y); binOp op t (ρ x) (ρ y))))) from rfl, h1, h2]; exact val this), DK hH (.d (.v _))⟩
   ·cases h
  ·split at h
   ·rename_i r heq
    cases h
    obtain ⟨⟨a, b, ha, hb⟩, hg, he⟩ := AJE heq (hρ x) (hρ y)
    refine ⟨.bool r, w, .inl ?_, DK hH (.d (.v _))⟩
    rw [ha, hb] at he
    have h3 : binOp .eql t (.agg a) (.agg b) = (do pure (.bool (<- Op.equal t (.agg a) (.agg b)))) := rfl
    simp [execOp, ha, hb, eqGuard, hg, h3, he]
   ·rename_i r heq
    cases h
    obtain ⟨⟨a, b, ha, hb⟩, hg, he⟩ := AJE heq (hρ x) (hρ y)
    refine ⟨.bool (!r), w, .inl ?_, DK hH (.d (.v _))⟩
    rw [ha, hb] at he
    have h3 : binOp .neq t (.agg a) (.agg b) = (do pure (.bool (!(<- Op.equal t (.agg a) (.agg b))))) := rfl
    simp [execOp, ha, hb, eqGuard, hg, h3, he]
   ·cases h
 case unOp op t x =>
  split at h
  ·rename_i a ha
   split at h
   ·rename_i v hv
    cases h
    have h1 := hρ x
    rw [ha] at h1
    have h1 : ρ x = a := h1.d_inv.v_inv
    refine ⟨v, w, .inl ?_, DK hH (.d (.v _))⟩
    have := BCK (P := P) hv w
    simp [execOp, h1, this]
   ·cases h
  ·cases h
 case convert s d x =>
  unfold Eff.one at h; split at h
  ·rename_i a ha
   cases h
   obtain ⟨y, h1, h2⟩ := AEP ha (hρ x) w
   exact ⟨y, w, .inl (val h1), DK hH h2⟩
  ·cases h
 case makeFunc fn first caps =>
  cases h
  refine ⟨.func fn (first.map ρ) (caps.map ρ), w, .inl (by simp [execOp, Instr.makeFunc]), DK hH (.fn (maps first).1 (maps caps).1 (maps first).2 (maps caps).2)⟩
 case makeSlice t l c =>
  obtain ⟨y, w', h1, h2⟩ := K5 h hp hr hH (hρ l) (hρ c)
  exact ⟨y, w', .inl (val h1), h2⟩
 case slice t x lo hi mx =>
  have opt : ∀ (q : Option Operand), (∀ a, q.map ρA = some a -> ∃ y, q.map ρ = some y /\ VRel B ι H.dom a y) /\ (q.map ρA = none -> q.map ρ = none) := λ q => by
   cases q with
   | none => exact ⟨λ _ h => (by cases h), λ _ => rfl⟩
   | some x => exact ⟨λ a h => (by cases h; exact ⟨_, rfl, hρ x⟩), λ h => (by cases h)⟩
  split at h
  ·rename_i a p hb
   cases h
   obtain ⟨y, h1, h2⟩ := AMH hb hp (hρ x) (opt lo).1 (opt lo).2 (opt hi).1 (opt hi).2 (opt mx).1 (opt mx).2 w
   exact ⟨y, w, .inl (val h1), DK hH h2⟩
  ·split at h
   ·unfold Eff.one at h; split at h
    ·rename_i a hb
     cases h
     obtain ⟨y, h1, h2⟩ := R4 hb (hρ x) hH
     exact ⟨y, w, .inl (val h1), DK hH h2⟩
    ·cases h
   ·obtain ⟨y, h1, h2⟩ := ADY h hp (hρ x) hH (opt lo).1 (opt lo).2 (opt hi).1 (opt mx).1
    exact ⟨y, w, .inl (val h1), h2⟩
 case makeMap t r' =>
  split at h
  ·obtain ⟨y, w', h1, h2⟩ := X6 h hr hH
   exact ⟨y, w', .inl (val h1), h2⟩
  ·cases h
 case lookup t m ix ok =>
  unfold Eff.of at h; split at h
  ·rename_i a p hb
   cases h
   obtain ⟨y, h1, h2⟩ := AHW hb hp (hρ m) (hρ ix) hH
   exact ⟨y, w, .inl (val h1), DK hH h2⟩
  ·cases h
 case mapUpdate t m k x =>
  obtain ⟨w', h1, h2⟩ := qQ h hH (hρ m) (hρ k) (hρ x)
  exact ⟨undef, w', .inr ⟨by simp [execOp, h1], rfl⟩, h2⟩
 case insert t m k x =>
  obtain ⟨w', h1, h2⟩ := qQ h hH (hρ m) (hρ k) (hρ x)
  exact ⟨undef, w', .inr ⟨by simp [execOp, h1], rfl⟩, h2⟩
 case mapEntry t m k =>
  obtain ⟨y, w', h1, h2⟩ := ALR h hp hH (hρ m) (hρ k)
  exact ⟨y, w', .inl (val h1), h2⟩
 case entryStore t m s x =>
  obtain ⟨w', h1, h2⟩ := xD (P := P) (t := t) h hp hH (hρ m) (hρ s) (hρ x)
  exact ⟨undef, w', .inr ⟨by simp [execOp, h1], rfl⟩, h2⟩
 case fieldAddr s x f =>
  unfold Eff.one at h; split at h
  ·rename_i a ha
   cases h
   obtain ⟨y, h1, h2⟩ := E8 (w := w) ha (hρ x)
   exact ⟨y, w, .inl (val h1), DK hH h2⟩
  ·cases h
 case field s x f =>
  unfold Eff.one at h; split at h
  ·rename_i a ha
   cases h
   obtain ⟨y, h1, h2⟩ := ALX ha (hρ x) w
   exact ⟨y, w, .inl (val h1), DK hH h2⟩
  ·cases h
 case indexAddr t x ix =>
  unfold Eff.of at h; split at h
  ·rename_i a p hb
   cases h
   obtain ⟨y, h1, h2⟩ := C6 hb hp (hρ x) (hρ ix) w
   exact ⟨y, w, .inl (val h1), DK hH h2⟩
  ·cases h
 case index t x ix =>
  unfold Eff.of at h; split at h
  ·rename_i a p hb
   cases h
   obtain ⟨y, h1, h2⟩ := ALQ hb hp (hρ x) (hρ ix) w
   exact ⟨y, w, .inl (val h1), DK hH h2⟩
  ·cases h
 case extract x i =>
  unfold Eff.one at h; split at h
  ·rename_i a ha
   cases h
   obtain ⟨y, h1, h2⟩ := ACC ha (hρ x) w
   exact ⟨y, w, .inl (val h1), DK hH h2⟩
  ·cases h
 case call c =>
  split at h
  ·rename_i b hb
   obtain ⟨callee, args, ats⟩ := c
   simp only at hb h
   subst hb
   have hex : ∀ {s : Sem Value} {y : Value} {w' : World}, builtin b ats type (args.map λ | .const _ => true | _ => false) (args.map ρ) = (do pure (.value (<- s))) -> s.run P w = .ok y w' ->
     Runs P ρ ⟨dst, .call ⟨.builtin b, args, ats⟩, type, pos, after, guard⟩ w y w' := λ h1 h2 => .inl (by
    rw [show execOp ρ ⟨dst, .call ⟨.builtin b, args, ats⟩, type, pos, after, guard⟩ = builtin b ats type (args.map λ | .const _ => true | _ => false) (args.map ρ) from rfl, h1]; exact val h2)
   have hm := maps args
   unfold X9 at h
   split at h
   ·rename_i a hl
    split at h
    ·rename_i t ht
     unfold Eff.one at h; split at h
     ·rename_i q hq
      cases h
      rw [hl] at hm
      have hsz : (args.map ρ).size = 1 := by simpa using hm.1
      obtain ⟨v, hv⟩ : ∃ v, args.map ρ = #[v] := by
       generalize args.map ρ = l at hsz
       match l, hsz with
       | ⟨[v]⟩, _ => exact ⟨v, rfl⟩
      have hva := hm.2 0 a v rfl (by rw [hv]; rfl)
      obtain ⟨y, h1, h2⟩ := ASY (P := P) (ty := type) hq hva ht w
      refine ⟨y, w, hex (s := Builtin.len_ ats type (args.map ρ)) rfl (by rw [hv]; exact h1), DK hH h2⟩
     ·cases h
    ·cases h
   ·rename_i s x hl
    split at h
    ·rename_i t t2 ht
     rw [hl] at hm
     have hsz : (args.map ρ).size = 2 := by simpa using hm.1
     obtain ⟨v, u, hv⟩ : ∃ v u, args.map ρ = #[v, u] := by
      generalize args.map ρ = l at hsz
      match l, hsz with
      | ⟨[v, u]⟩, _ => exact ⟨v, u, rfl⟩
     have hva := hm.2 0 s v rfl (by rw [hv]; rfl)
     have hvb := hm.2 1 x u rfl (by rw [hv]; rfl)
     have hats : ats = #[t, t2] := by
      have := congrArg List.toArray ht
      simpa using this
     obtain ⟨y, w', h1, h2⟩ := AIB (ty := type) h hp hr hH hva hvb
     exact ⟨y, w', hex (s := Builtin.append_ ats type (args.map ρ)) rfl (by rw [hv, hats]; exact h1), h2⟩
    ·cases h
   ·rename_i d x hl
    split at h
    ·rename_i t ht
     rw [hl] at hm
     have hsz : (args.map ρ).size = 2 := by simpa using hm.1
     obtain ⟨v, u, hv⟩ : ∃ v u, args.map ρ = #[v, u] := by
      generalize args.map ρ = l at hsz
      match l, hsz with
      | ⟨[v, u]⟩, _ => exact ⟨v, u, rfl⟩
     have hva := hm.2 0 d v rfl (by rw [hv]; rfl)
     have hvb := hm.2 1 x u rfl (by rw [hv]; rfl)
     obtain ⟨y, w', h1, h2⟩ := AQE (ty := type) h hp ht hva hvb hH
     exact ⟨y, w', hex (s := Builtin.copy_ ats type (args.map ρ)) rfl (by rw [hv]; exact h1), h2⟩
    ·cases h
   ·unfold Eff.one at h; split at h
    ·rename_i q hq
     cases h
     obtain ⟨y, h1, h2⟩ := R6 (P := P) (ats := ats) (ty := type) hq hm.1 hm.2 w
     exact ⟨y, w, hex (s := Builtin.min_ ats type (args.map ρ)) rfl h1, DK hH h2⟩
    ·cases h
   ·unfold Eff.one at h; split at h
    ·rename_i q hq
     cases h
     obtain ⟨y, h1, h2⟩ := R0 (P := P) (ats := ats) (ty := type) hq hm.1 hm.2 w
     exact ⟨y, w, hex (s := Builtin.max_ ats type (args.map ρ)) rfl h1, DK hH h2⟩
    ·cases h
   ·cases h
  ·cases h
end Go.Sym
