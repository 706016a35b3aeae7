/- Arguments that came in, as data; and what a call that owns nothing leaves. -/
import Derived.Test.YtonddbmhljelgaaBalH
import Derived.Test.YtonddbmhljelgaaRows
import Derived.WalkKit
import Derived.ProofKit
import Derived.OpenShut
import Derived.ShutString
import Derived.ChangeOld
import Derived.Below
import Derived.ChangeArms
import Derived.Test.YtonddbmhljelgaaBalTot
import Derived.Test.YtonddbmhljelgaaBalMk2
import Derived.Test.YtonddbmhljelgaaBalZ
set_option linter.unusedVariables false
set_option linter.unusedSimpArgs false
set_option maxRecDepth 100000
namespace Go.Bal
open Go Go.Sym Go.Proofs Go.ChangeShapes Go.WideShapes Go.RowKit
def immOf (w : World) : Imm := fun b => match w.heap[b]? with
  | some (.cells c _ _) => some c
  | _ => none
theorem hrel_nil (w : World) (ι : Nat → Pl) : HRel (immOf w) ι (heapOf []) w := by
  refine ⟨fun i o h => by simp [heapOf, getO] at h, fun i j o o' h => by simp [heapOf, getO] at h, fun i o h => by simp [heapOf, getO] at h, fun b c h => ?_⟩
  unfold immOf at h
  split at h
  · rename_i c' e fr hc
    cases h
    exact ⟨e, fr, hc⟩
  · cases h
theorem cell_imm {w : World} {b off : Nat} {v : Value} (h : w.cell? ⟨b, off, none⟩ = some v) : ∃ c, immOf w b = some c ∧ c[off]? = some v := by
  unfold World.cell? at h
  simp only at h
  split at h
  · rename_i c e fr hc
    simp only [Option.isSome_none, Bool.false_eq_true, ↓reduceIte] at h
    exact ⟨c, by unfold immOf; rw [hc], h⟩
  · cases h
section
variable {X : Type} {enc : TypeId × Value → X} {P : Program} {w : World} {base : Nat} {spare : Nat → Bool} {held : Bool}
def ElemOk (X : Type) (enc : TypeId × Value → X) (P : Program) (w : World) (base : Nat) (spare : Nat → Bool) (held : Bool) (e : TypeId) (k : Nat) {α : Type} (en : α → DVal) : Prop :=
  P.cellsOf e = k ∧ ∀ (fuel : Nat) (cs : List Value) (x : DataW X × List MemPlace), DataW.trod enc P w base spare held fuel e cs = some x → cs.length = k → ∃ d : α, (en d).cells1 = cs.map DVal.v ∧ allOne (en d).cells1 = true
theorem row_rel {α : Type} [Inhabited α] {t e : TypeId} {k : Nat} {en : α → DVal} (hk : 0 < k) (ht : P.underlying t = some (.slice e)) (he : ElemOk X enc P w base spare held e k en) {fuel : Nat} {v : Value} {x : DataW X × List MemPlace}
    (h : DataW.trod enc P w base spare held fuel t [v] = some x) : ∃ l : List α, DRel (immOf w) (lst k l.length fun i => en (gD l i)) v := by
  rcases DataW.trod_slice ht h with ⟨h0, _⟩ | ⟨a, len, cap, elems, rest, n, _, hv, _, hb, hl, hm, hlen, hel, _⟩
  · cases h0
    exact ⟨[], .nil (fun h => by cases h) (.inl rfl)⟩
  · cases hv
    by_cases h0 : len = 0
    · subst h0
      exact ⟨[], .nil (fun h => by cases h) (.inr (by simp))⟩
    obtain ⟨hck, hE⟩ := he
    have each : ∀ i, ∃ (d : α) (cs : List Value), i < len → w.cells? base (a.add (i * k)) k = some cs ∧ (en d).cells1 = cs.map DVal.v ∧ allOne (en d).cells1 = true := by
      intro i
      by_cases hi : i < len
      · have h1 := hel i hi
        have h2 : elems[i]? = some (elems[i]'(by omega)) := List.getElem?_eq_getElem (by omega)
        rw [h2, Option.bind_eq_some_iff] at h1
        obtain ⟨cs, h3, h4⟩ := h1
        rw [hck] at h3
        obtain ⟨d, h5⟩ := hE n cs _ h4 (World.cells?_some h3).2.1
        exact ⟨d, cs, fun _ => ⟨h3, h5⟩⟩
      · exact ⟨default, [], fun h => absurd h hi⟩
    have cell : ∀ i j, i < len → j < k → ∃ y, (en (Classical.choose (each i))).cells1[j]? = some (.v y) ∧ w.cell? ((a.add (i * k)).add j) = some y := by
      intro i j hi hj
      obtain ⟨cs, hcs⟩ := Classical.choose_spec (each i)
      obtain ⟨h1, h2, _⟩ := hcs hi
      obtain ⟨_, h3, h4⟩ := World.cells?_some h1
      have h5 : cs[j]? = some (cs[j]'(by omega)) := List.getElem?_eq_getElem (by omega)
      refine ⟨cs[j]'(by omega), ?_, ?_⟩
      · rw [h2, List.getElem?_map, h5]; rfl
      · rw [h4 j hj, h5]
    have hspot : a.spot = none := by
      obtain ⟨y, _, h1⟩ := cell 0 0 (by omega) hk
      have := World.cell?_spot h1
      simpa [Addr.add] using this
    obtain ⟨b, off, spot⟩ := a
    simp only at hspot
    subst hspot
    have cell' : ∀ i j, i < len → j < k → ∃ y, (en (Classical.choose (each i))).cells1[j]? = some (.v y) ∧ w.cell? ⟨b, off + i * k + j, none⟩ = some y := by
      intro i j hi hj
      obtain ⟨y, h1, h2⟩ := cell i j hi hj
      refine ⟨y, h1, ?_⟩
      have : ((Addr.mk b off none).add (i * k)).add j = ⟨b, off + i * k + j, none⟩ := by
        unfold Addr.add
        split <;> split <;> simp_all
      rw [← this]; exact h2
    obtain ⟨y0, _, hc0⟩ := cell' 0 0 (by omega) hk
    obtain ⟨c, hB, _⟩ := cell_imm hc0
    have at' : ∀ i j, i < len → j < k → ∃ y, (en (Classical.choose (each i))).cells1[j]? = some (.v y) ∧ c[off + i * k + j]? = some y := by
      intro i j hi hj
      obtain ⟨y, h1, h2⟩ := cell' i j hi hj
      obtain ⟨c', h3, h4⟩ := cell_imm h2
      rw [hB] at h3; cases h3
      exact ⟨y, h1, h4⟩
    have hg : ∀ i, i < len → gD ((List.range len).map fun i => Classical.choose (each i)) i = Classical.choose (each i) := fun i hi => gD_range _ hi
    have hll : ((List.range len).map fun i => Classical.choose (each i)).length = len := by simp
    refine ⟨(List.range len).map fun i => Classical.choose (each i), ?_⟩
    rw [hll]
    have e1 : ∀ i, i < len → (en (Classical.choose (each i))).cells1.length = k := by
      intro i hi
      obtain ⟨cs, hcs⟩ := Classical.choose_spec (each i)
      obtain ⟨h1, h2, _⟩ := hcs hi
      rw [h2, List.length_map]; exact (World.cells?_some h1).2.1
    refine DRel.list (by omega) hB hl (fun h => by cases h) (fun i hi => ?_) ?_ (fun i j x y hi hx hy => ?_)
    · rw [hg i hi]
      obtain ⟨cs, hcs⟩ := Classical.choose_spec (each i)
      exact ⟨e1 i hi, (hcs hi).2.2⟩
    · obtain ⟨y, _, h1⟩ := at' (len - 1) (k - 1) (by omega) (by omega)
      have h2 := (Array.getElem?_eq_some_iff.1 h1).1
      have h3 : len * k = (len - 1) * k + k := by
        obtain ⟨m, rfl⟩ : ∃ m, len = m + 1 := ⟨len - 1, by omega⟩
        rw [Nat.add_sub_cancel, Nat.succ_mul]
      omega
    · rw [hg i hi] at hx
      have hj : j < k := by
        have := (List.getElem?_eq_some_iff.1 hx).1
        have := e1 i hi
        omega
      obtain ⟨z, h1, h2⟩ := at' i j hi hj
      rw [h1] at hx; rw [h2] at hy
      cases hx; cases hy
      exact .v _
theorem elem_int {e : TypeId} (he : P.underlying e = some (.int .i64)) (hc : P.cellsOf e = 1) : ElemOk X enc P w base spare held e 1 eInt := by
  refine ⟨hc, fun fuel cs x h hl => ?_⟩
  obtain ⟨n, rfl, _, _⟩ := DataW.trod_int he h
  exact ⟨n, rfl, rfl⟩
theorem field_int {e : TypeId} {fuel : Nat} {cs : List Value} {x : DataW X × List MemPlace} (he : P.underlying e = some (.int .i64)) (h : DataW.trod enc P w base spare held fuel e cs = some x) : ∃ n, cs = [.int .i64 n] := by
  obtain ⟨n, h1, _, _⟩ := DataW.trod_int he h
  exact ⟨n, h1⟩
end
section
variable {X : Type} {enc : TypeId × Value → X} {w : World} {base : Nat} {spare : Nat → Bool} {held : Bool}
theorem elem_span : ElemOk X enc Try.prog w base spare held 61 2 eSpan := by
  refine ⟨by kernel_rfl, fun fuel cs x h hl => ?_⟩
  obtain ⟨xs, n, _, _, _, hx, hf⟩ := DataW.trod_struct Try.underlying61 h
  have hx : xs.length = 2 := hx
  have c3 : Try.prog.cellsOf 3 = 1 := by kernel_rfl
  match cs, hl with
  | [a, b], _ =>
    have h0 : DataW.trod enc Try.prog w base spare held n 3 (([a, b].drop 0).take (Try.prog.cellsOf 3)) = xs[0]? := hf 0 _ rfl
    have h1 : DataW.trod enc Try.prog w base spare held n 3 (([a, b].drop 1).take (Try.prog.cellsOf 3)) = xs[1]? := hf 1 _ rfl
    rw [c3] at h0 h1
    rw [List.getElem?_eq_getElem (by omega)] at h0 h1
    obtain ⟨p, hp⟩ := field_int Try.underlying3 h0
    obtain ⟨q, hq⟩ := field_int Try.underlying3 h1
    simp only [List.drop_zero, List.drop_succ_cons, List.take_succ_cons, List.take_zero, List.cons.injEq, and_true] at hp hq
    subst hp hq
    exact ⟨⟨p, q⟩, rfl, rfl⟩
theorem elem_reach : ElemOk X enc Try.prog w base spare held 63 4 eReach := by
  refine ⟨by kernel_rfl, fun fuel cs x h hl => ?_⟩
  obtain ⟨xs, n, _, _, _, hx, hf⟩ := DataW.trod_struct Try.underlying63 h
  have hx : xs.length = 3 := hx
  have c3 : Try.prog.cellsOf 3 = 1 := by kernel_rfl
  have c61 : Try.prog.cellsOf 61 = 2 := by kernel_rfl
  match cs, hl with
  | [a, b, c, d], _ =>
    have h0 : DataW.trod enc Try.prog w base spare held n 3 (([a, b, c, d].drop 0).take (Try.prog.cellsOf 3)) = xs[0]? := hf 0 _ rfl
    have h1 : DataW.trod enc Try.prog w base spare held n 3 (([a, b, c, d].drop 1).take (Try.prog.cellsOf 3)) = xs[1]? := hf 1 _ rfl
    have h2 : DataW.trod enc Try.prog w base spare held n 61 (([a, b, c, d].drop 2).take (Try.prog.cellsOf 61)) = xs[2]? := hf 2 _ rfl
    rw [c3] at h0 h1
    rw [c61] at h2
    rw [List.getElem?_eq_getElem (by omega)] at h0 h1 h2
    obtain ⟨p, hp⟩ := field_int Try.underlying3 h0
    obtain ⟨q, hq⟩ := field_int Try.underlying3 h1
    simp only [List.drop_zero, List.drop_succ_cons, List.take_succ_cons, List.take_zero, List.cons.injEq, and_true] at hp hq h2
    subst hp hq
    obtain ⟨⟨s, t⟩, he, _⟩ := elem_span.2 n _ _ h2 rfl
    have he : [DVal.v (.int .i64 s), DVal.v (.int .i64 t)] = [DVal.v c, DVal.v d] := he
    cases he
    exact ⟨⟨p, q, ⟨s, t⟩⟩, rfl, rfl⟩
theorem elem_i : ElemOk X enc Try.prog w base spare held 3 1 eInt := elem_int Try.underlying3 (by kernel_rfl)
theorem two_rel {a b : DVal} {x y : Value} {B : Imm} (h1 : DRel B a x) (h2 : DRel B b y) : DRel B (.agg [a, b]) (.agg #[x, y]) := by
  refine .agg rfl fun j p q hp hq => ?_
  match j with
  | 0 => cases hp; cases hq; exact h1
  | 1 => cases hp; cases hq; exact h2
  | j + 2 => simp at hp
theorem struct_two {t f0 f1 : TypeId} {fs : Array Field} {v : Value} {d : DataW X} {ps : List MemPlace} {r : Go.Reach} {b0 : Nat} (ht : Try.prog.underlying t = some (.struct fs)) (hc : Try.prog.cellsOf t = 2)
    (h0 : (fs[0]?).map (fun f => (f.type, f.offset)) = some (f0, 0)) (h1 : (fs[1]?).map (fun f => (f.type, f.offset)) = some (f1, 1)) (c0 : Try.prog.cellsOf f0 = 1) (c1 : Try.prog.cellsOf f1 = 1)
    (hv : Value.okWide Try.prog w r b0 t v) (h : DataW.Trod enc Try.prog w base spare held t v d ps) :
    ∃ a b fuel x y, v = .agg #[a, b] ∧ DataW.trod enc Try.prog w base spare held fuel f0 [a] = some x ∧ DataW.trod enc Try.prog w base spare held fuel f1 [b] = some y := by
  obtain ⟨cs, rfl, hs⟩ := okWide_struct ht hv
  rw [hc] at hs
  obtain ⟨fuel, hf⟩ := h
  obtain ⟨xs, n, _, _, _, hx, hff⟩ := DataW.trod_struct ht hf
  cases hq0 : fs[0]? with
  | none => rw [hq0] at h0; cases h0
  | some g0 =>
    cases hq1 : fs[1]? with
    | none => rw [hq1] at h1; cases h1
    | some g1 =>
      rw [hq0] at h0; rw [hq1] at h1
      simp only [Option.map_some, Option.some.injEq, Prod.mk.injEq] at h0 h1
      obtain ⟨rfl, e0⟩ := h0
      obtain ⟨rfl, e1⟩ := h1
      have k0 := hff 0 g0 hq0
      have k1 := hff 1 g1 hq1
      have s0 := (Array.getElem?_eq_some_iff.1 hq0).1
      have s1 := (Array.getElem?_eq_some_iff.1 hq1).1
      rw [List.getElem?_eq_getElem (by omega), c0, e0] at k0
      rw [List.getElem?_eq_getElem (by omega), c1, e1] at k1
      obtain ⟨l⟩ := cs
      match l, hs with
      | [a, b], _ => exact ⟨a, b, n, _, _, rfl, k0, k1⟩
theorem net_rel {v : Value} {d : DataW X} {ps : List MemPlace} {r : Go.Reach} {b0 : Nat} (hv : Value.okWide Try.prog w r b0 25 v) (h : DataW.Trod enc Try.prog w base spare held 25 v d ps) : ∃ N : NetL, DRel (immOf w) (eNetL N) v := by
  obtain ⟨a, b, fuel, x, y, rfl, h0, h1⟩ := struct_two Try.underlying25 (by kernel_rfl) (f0 := 22) (f1 := 23) rfl rfl (by kernel_rfl) (by kernel_rfl) hv h
  obtain ⟨g, hg⟩ := row_rel (by omega) Try.underlying22 elem_span h0
  obtain ⟨l, hl⟩ := row_rel (by omega) Try.underlying23 elem_reach h1
  exact ⟨⟨g, l⟩, two_rel hg hl⟩
theorem ints_rel {v : Value} {d : DataW X} {ps : List MemPlace} {r : Go.Reach} {b0 : Nat} (hv : Value.okWide Try.prog w r b0 26 v) (h : DataW.Trod enc Try.prog w base spare held 26 v d ps) : ∃ l : List Int, DRel (immOf w) (eIntsL l) v := by
  obtain ⟨a, len, cap, rfl⟩ := okWide_slice Try.underlying26 hv
  obtain ⟨fuel, hf⟩ := h
  exact row_rel (by omega) Try.underlying26 elem_i hf
end
theorem law_calls {g : FuncId} {xs : List AVal} (hg : FnT Try.prog g xs (heapOf []) (.bool true) []) {w : World} {vs : Array Value} (hl : vs.size = xs.length)
    (hx : ∀ (j : Nat) (a : AVal) (y : Value), xs[j]? = some a → vs[j]? = some y → ∃ d, a = .d d ∧ DRel (immOf w) d y) :
    Calls Try.prog g vs w fun e w' => e = .returned (.bool true) ∧ Below w.heap.size w w' := by
  refine (hg.2 (immOf w) (fun _ => ⟨0, 0⟩) w vs ⟨hl, fun j a y ha hy => ?_⟩ (hrel_nil w _)).mono fun e w' ⟨v, H', he, _, B', ι', hm, hv⟩ => ?_
  · obtain ⟨d, rfl, hd⟩ := hx j a y ha hy
    exact .d hd
  · subst he
    cases hv with
    | d hd =>
      cases hd
      exact ⟨rfl, hm.calm.os, hm.calm.tape, hm.calm.output, hm.size, fun k hk => hm.frame k hk fun i o h => by simp [heapOf, getO] at h⟩
end Go.Bal

set_option maxRecDepth 100000
namespace Go.Bal
open Go Go.Sym Go.Proofs Go.ChangeShapes Go.WideShapes Go.RowKit
section
variable {X : Type} {enc : TypeId × Value → X} {w : World} {base : Nat} {spare : Nat → Bool} {held : Bool}
abbrev Byt := { n : Int // 0 ≤ n ∧ n ≤ 255 }
instance : Inhabited Byt := ⟨⟨0, by decide, by decide⟩⟩
theorem int_rel {v : Value} {d : DataW X} {ps : List MemPlace} {r : Go.Reach} {b0 : Nat} (hv : Value.okWide Try.prog w r b0 3 v) (h : DataW.Trod enc Try.prog w base spare held 3 v d ps) : ∃ n : Int, (-9223372036854775808 ≤ n ∧ n ≤ 9223372036854775807) ∧ DRel (immOf w) (.v (.int .i64 n)) v := by
  obtain ⟨m, rfl⟩ := okWide_int Try.underlying3 hv
  obtain ⟨fuel, hf⟩ := h
  obtain ⟨n, e, _, hw⟩ := DataW.trod_int Try.underlying3 hf
  have e : [Value.int .i64 m] = [.int .i64 n] := e
  cases e
  have hw : (decide (IntKind.i64.min ≤ m) && decide (m ≤ IntKind.i64.max)) = true := hw
  simp only [Bool.and_eq_true, decide_eq_true_eq] at hw
  have e1 : IntKind.i64.min = -9223372036854775808 := rfl
  have e2 : IntKind.i64.max = 9223372036854775807 := rfl
  exact ⟨m, ⟨by omega, by omega⟩, .v _⟩
end
end Go.Bal

namespace Go.Bal
open Go Go.Sym Go.Proofs
def dP (a : List AVal) (H : Heap) : Option (NPL × List (Nat × Nat) × List Nat) := match a with
  | [x, .d (.v (.int _ p)), y] => match dNet x H, dInts y H with
    | some (N, f), some (l, g) => some (⟨N, p, l⟩, [], f ++ g)
    | _, _ => none
  | _ => none
theorem ok24t : SpecOk Try.prog 24 (C24.spec dP) := okC C24 A24 [] [] Try.func24 (fun _ => by kernel_rfl) (fun _ => gok_cons ok44 (gok_cons ok64c61 (gok_cons ok65 (gok_cons ok66 gok_nil)))) (fun a h => p24 a h) (fun _ => noI rfl rfl) _
variable {N : NetL} {T : TruthL}
end Go.Bal

namespace Go.Bal
open Go Go.Sym Go.Proofs
def pullM (r : Int) (s : Span) : Int := if r = 1 then s.lo else if r = -1 then wr (-s.hi) else 0
def V84 (x : Int) (s : Span) : Prop := fnVC Try.prog (ann 14 []) Try.f84 (bodyOf Try.f84) [.int x, .d (eSpan s)] (heapOf []) (.int (pullM x s)) [] [] []
theorem vc84 (x : Int) (s : Span) : (V84 x s) = (bif x == 1 then pullM x s = s.lo else bif x == -1 then pullM x s = IntKind.i64.wrap (0 - s.hi) else pullM x s = 0) := by kernel_rfl
def f84 : List AVal → Option (AVal × List Prop)
  | [.d (.v (.int .i64 x)), .d (.agg [.v (.int .i64 a), .v (.int .i64 b)])] => some (.int (pullM x ⟨a, b⟩), [])
  | _ => none
def s84 := pureSpec f84
theorem p84 (x : Int) (s : Span) : V84 x s := by
  rw [vc84]; unfold pullM
  by_cases h1 : x = 1 <;> by_cases h2 : x = -1 <;> simp [h1, h2] <;> omega
theorem ok84 : SpecOk Try.prog 84 s84 := pureSpec_ok fun xs v p h _ => by
  unfold f84 at h; split at h
  · cases h; exact fnt (A := ann 14 []) (ren := []) (fz := []) Try.func84 (by kernel_rfl) gok_nil (p84 _ ⟨_, _⟩)
  · cases h
def limM (s : Span) (r x : Int) : Span := ⟨if r = -1 then max s.lo x else s.lo, if r = 1 then min s.hi (wr (-x)) else s.hi⟩
def V71 (s : Span) (r x : Int) : Prop := fnVC Try.prog (ann 23 []) Try.f71 (bodyOf Try.f71) [.d (eSpan s), .int r, .int x] (heapOf []) (.d (eSpan (limM s r x))) [] [] []
theorem vc71 (s : Span) (r : Int) (x : Int) : (V71 s r x) = (bif r == 1 then bif r == -1 then (limM s r x).lo = maxI s.lo x ∧ (limM s r x).hi = minI s.hi (IntKind.i64.wrap (0 - x)) else (limM s r x).lo = s.lo ∧ (limM s r
 x).hi = minI s.hi (IntKind.i64.wrap (0 - x)) else bif r == -1 then (limM s r x).lo = maxI s.lo x ∧ (limM s r x).hi = s.hi else (limM s r x).lo = s.lo ∧ (limM s r x).hi = s.hi) := by kernel_rfl
theorem p71 (s : Span) (r x : Int) : V71 s r x := by
  rw [vc71]; simp only [condP, eq_self, implies_true, and_self, true_and, and_true, true_implies, forall_const, decide_eq_true_eq, decide_eq_false_iff_not, Int.toNat_natCast, dSpan_eSpan, dReach_eReach, dWay_eWay, dStep_eStep, dFar_eFar, dInt_eInt, Nat.zero_add, Int.zero_sub, Nat.le_eq, Nat.succ_eq_add_one, Nat.add_one_le_iff, Bool.not_eq_true', Bool.not_eq_false', rng_length, dSpan_mk, dReach_mk, dWay_mk, dStep_mk, dFar_mk, rng_getD, minI_eq, maxI_eq, beq_iff_eq, beq_eq_false_iff_ne]; unfold limM
  by_cases h1 : r = 1 <;> by_cases h2 : r = -1 <;> simp [h1, h2] <;> omega
def f71 : List AVal → Option (AVal × List Prop)
  | [.d (.agg [.v (.int .i64 a), .v (.int .i64 b)]), .d (.v (.int .i64 r)), .d (.v (.int .i64 x))] => some (.d (eSpan (limM ⟨a, b⟩ r x)), [])
  | _ => none
def s71 := pureSpec f71
theorem ok71 : SpecOk Try.prog 71 s71 := pureSpec_ok fun xs v p h _ => by
  unfold f71 at h; split at h
  · cases h; exact fnt (A := ann 23 []) (ren := []) (fz := []) Try.func71 (by kernel_rfl) gok_nil (p71 ⟨_, _⟩ _ _)
  · cases h
end Go.Bal
