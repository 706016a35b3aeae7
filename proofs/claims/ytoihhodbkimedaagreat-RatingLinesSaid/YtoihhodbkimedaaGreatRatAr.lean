/- Arguments that came in, as data; and what a call that owns nothing leaves. -/
import Derived.Test.YtoihhodbkimedaaGreatRat0
import Derived.Test.YtoihhodbkimedaaGreatRows
import Derived.WalkKit
import Derived.ProofKit
import Derived.OpenShut
import Derived.ShutString
import Derived.ChangeOld
import Derived.Below
import Derived.ChangeArms
set_option linter.unusedVariables false
set_option linter.unusedSimpArgs false
set_option maxRecDepth 100000
namespace Go.Bal
open Go Go.Sym Go.Proofs Go.ChangeShapes Go.WideShapes Go.RowKit
theorem BKS {α : Type} [Inhabited α] (f : Nat -> α) {n i : Nat} (h : i < n) : gD ((List.range n).map f) i = f i := by
 simp [gD, List.getD_eq_getElem?_getD, h]
def Fo (w : World) : IB := λ b => match w.heap[b]? with
 | some (.cells c _ _) => some c
 | _ => none
theorem BHN (w : World) (ι : Nat -> Pl) : HRel (Fo w) ι (AC []) w := by
 refine ⟨λ i o h => by simp [AC, CS] at h, λ i j o o' h => by simp [AC, CS] at h, λ i o h => by simp [AC, CS] at h, λ b c h => ?_⟩
 unfold Fo at h
 split at h
 ·rename_i c' e fr hc
  cases h
  exact ⟨e, fr, hc⟩
 ·cases h
theorem AUL {w : World} {b off : Nat} {v : Value} (h : w.cell? ⟨b, off, none⟩ = some v) : ∃ c, Fo w b = some c /\ c[off]? = some v := by
 unfold World.cell? at h
 simp only at h
 split at h
 ·rename_i c e fr hc
  simp only [Option.isSome_none, Bool.false_eq_true, ↓reduceIte] at h
  exact ⟨c, by unfold Fo; rw [hc], h⟩
 ·cases h
section
variable {X : Type} {enc : TypeId × Value -> X} {P : Program} {w : World} {base : Nat} {spare : Nat -> Bool} {held : Bool}
def Wk (X : Type) (enc : TypeId × Value -> X) (P : Program) (w : World) (base : Nat) (spare : Nat -> Bool) (held : Bool) (e : TypeId) (k : Nat) {α : Type} (en : α -> DVal) : Prop :=
 P.cellsOf e = k /\ ∀ (fuel : Nat) (cs : List Value) (x : DataW X × List MemPlace), DataW.trod enc P w base spare held fuel e cs = some x -> cs.length = k -> ∃ d : α, (en d).cells1 = cs.map DVal.v /\ BN (en d).cells1 = true
theorem ARC {α : Type} [Inhabited α] {t e : TypeId} {k : Nat} {en : α -> DVal} (hk : 0 < k) (ht : P.underlying t = some (.slice e)) (he : Wk X enc P w base spare held e k en) {fuel : Nat} {v : Value} {x : DataW X × List MemPlace}
  (h : DataW.trod enc P w base spare held fuel t [v] = some x) : ∃ l : List α, DRel (Fo w) (lst k l.length λ i => en (gD l i)) v := by
 rcases DataW.trod_slice ht h with ⟨h0, _⟩ | ⟨a, len, cap, elems, rest, n, _, hv, _, hb, hl, hm, hlen, hel, _⟩
 ·cases h0
  exact ⟨[], .nil (λ h => by cases h) (.inl rfl)⟩
 ·cases hv
  by_cases h0 : len = 0
  ·subst h0
   exact ⟨[], .nil (λ h => by cases h) (.inr (by simp))⟩
  obtain ⟨hck, hE⟩ := he
  have each : ∀ i, ∃ (d : α) (cs : List Value), i < len -> w.cells? base (a.add (i * k)) k = some cs /\ (en d).cells1 = cs.map DVal.v /\ BN (en d).cells1 = true := by
   intro i
   by_cases hi : i < len
   ·have h1 := hel i hi
    have h2 : elems[i]? = some (elems[i]'(by omega)) := List.getElem?_eq_getElem (by omega)
    rw [h2, Option.bind_eq_some_iff] at h1
    obtain ⟨cs, h3, h4⟩ := h1
    rw [hck] at h3
    obtain ⟨d, h5⟩ := hE n cs _ h4 (World.cells?_some h3).2.1
    exact ⟨d, cs, λ _ => ⟨h3, h5⟩⟩
   ·exact ⟨default, [], λ h => absurd h hi⟩
  have cell : ∀ i j, i < len -> j < k -> ∃ y, (en (Classical.choose (each i))).cells1[j]? = some (.v y) /\ w.cell? ((a.add (i * k)).add j) = some y := by
   intro i j hi hj
   obtain ⟨cs, hcs⟩ := Classical.choose_spec (each i)
   obtain ⟨h1, h2, _⟩ := hcs hi
   obtain ⟨_, h3, h4⟩ := World.cells?_some h1
   have h5 : cs[j]? = some (cs[j]'(by omega)) := List.getElem?_eq_getElem (by omega)
   refine ⟨cs[j]'(by omega), ?_, ?_⟩
   ·rw [h2, List.getElem?_map, h5]; rfl
   ·rw [h4 j hj, h5]
  have hspot : a.spot = none := by
   obtain ⟨y, _, h1⟩ := cell 0 0 (by omega) hk
   have := World.cell?_spot h1
   simpa [Addr.add] using this
  obtain ⟨b, off, spot⟩ := a
  simp only at hspot
  subst hspot
  have cell' : ∀ i j, i < len -> j < k -> ∃ y, (en (Classical.choose (each i))).cells1[j]? = some (.v y) /\ w.cell? ⟨b, off + i * k + j, none⟩ = some y := by
   intro i j hi hj
   obtain ⟨y, h1, h2⟩ := cell i j hi hj
   refine ⟨y, h1, ?_⟩
   have : ((Addr.mk b off none).add (i * k)).add j = ⟨b, off + i * k + j, none⟩ := by
    unfold Addr.add
    split <;> split <;> simp_all
   rw [<- this]; exact h2
  obtain ⟨y0, _, hc0⟩ := cell' 0 0 (by omega) hk
  obtain ⟨c, hB, _⟩ := AUL hc0
  have at' : ∀ i j, i < len -> j < k -> ∃ y, (en (Classical.choose (each i))).cells1[j]? = some (.v y) /\ c[off + i * k + j]? = some y := by
   intro i j hi hj
   obtain ⟨y, h1, h2⟩ := cell' i j hi hj
   obtain ⟨c', h3, h4⟩ := AUL h2
   rw [hB] at h3; cases h3
   exact ⟨y, h1, h4⟩
  have hg : ∀ i, i < len -> gD ((List.range len).map λ i => Classical.choose (each i)) i = Classical.choose (each i) := λ i hi => BKS _ hi
  have hll : ((List.range len).map λ i => Classical.choose (each i)).length = len := by simp
  refine ⟨(List.range len).map λ i => Classical.choose (each i), ?_⟩
  rw [hll]
  have e1 : ∀ i, i < len -> (en (Classical.choose (each i))).cells1.length = k := by
   intro i hi
   obtain ⟨cs, hcs⟩ := Classical.choose_spec (each i)
   obtain ⟨h1, h2, _⟩ := hcs hi
   rw [h2, List.length_map]; exact (World.cells?_some h1).2.1
  refine DRel.list (by omega) hB hl (λ h => by cases h) (λ i hi => ?_) ?_ (λ i j x y hi hx hy => ?_)
  ·rw [hg i hi]
   obtain ⟨cs, hcs⟩ := Classical.choose_spec (each i)
   exact ⟨e1 i hi, (hcs hi).2.2⟩
  ·obtain ⟨y, _, h1⟩ := at' (len - 1) (k - 1) (by omega) (by omega)
   have h2 := (Array.getElem?_eq_some_iff.1 h1).1
   have h3 : len * k = (len - 1) * k + k := by
    obtain ⟨m, rfl⟩ : ∃ m, len = m + 1 := ⟨len - 1, by omega⟩
    rw [Nat.add_sub_cancel, Nat.succ_mul]
   omega
  ·rw [hg i hi] at hx
   have hj : j < k := by
    have := (List.getElem?_eq_some_iff.1 hx).1
    have := e1 i hi
    omega
   obtain ⟨z, h1, h2⟩ := at' i j hi hj
   rw [h1] at hx; rw [h2] at hy
   cases hx; cases hy
   exact .v _
theorem BFM {e : TypeId} (he : P.underlying e = some (.int .i64)) (hc : P.cellsOf e = 1) : Wk X enc P w base spare held e 1 CH := by
 refine ⟨hc, λ fuel cs x h hl => ?_⟩
 obtain ⟨n, rfl, _, _⟩ := DataW.trod_int he h
 exact ⟨n, rfl, rfl⟩
theorem XN {e : TypeId} {fuel : Nat} {cs : List Value} {x : DataW X × List MemPlace} (he : P.underlying e = some (.int .i64)) (h : DataW.trod enc P w base spare held fuel e cs = some x) : ∃ n, cs = [.int .i64 n] := by
 obtain ⟨n, h1, _, _⟩ := DataW.trod_int he h
 exact ⟨n, h1⟩
end
section
variable {X : Type} {enc : TypeId × Value -> X} {w : World} {base : Nat} {spare : Nat -> Bool} {held : Bool}
theorem BDG : Wk X enc Try.prog w base spare held 28 2 ePt := by
 refine ⟨by kernel_rfl, λ fuel cs x h hl => ?_⟩
 obtain ⟨xs, n, _, _, _, hx, hf⟩ := DataW.trod_struct Tryz.underlying28 h
 have hx : xs.length = 2 := hx
 have c3 : Try.prog.cellsOf 3 = 1 := by kernel_rfl
 match cs, hl with
 | [a, b], _ =>
  have h0 : DataW.trod enc Try.prog w base spare held n 3 (([a, b].drop 0).take (Try.prog.cellsOf 3)) = xs[0]? := hf 0 _ rfl
  have h1 : DataW.trod enc Try.prog w base spare held n 3 (([a, b].drop 1).take (Try.prog.cellsOf 3)) = xs[1]? := hf 1 _ rfl
  rw [c3] at h0 h1
  rw [List.getElem?_eq_getElem (by omega)] at h0 h1
  obtain ⟨p, hp⟩ := XN Tryz.underlying3 h0
  obtain ⟨q, hq⟩ := XN Tryz.underlying3 h1
  simp only [List.drop_zero, List.drop_succ_cons, List.take_succ_cons, List.take_zero, List.cons.injEq, and_true] at hp hq
  subst hp hq
  exact ⟨⟨p, q⟩, rfl, rfl⟩
theorem BAR : Wk X enc Try.prog w base spare held 70 2 ePt := by
 refine ⟨by kernel_rfl, λ fuel cs x h hl => ?_⟩
 obtain ⟨xs, n, _, _, _, hx, hf⟩ := DataW.trod_struct Tryz.underlying70 h
 have hx : xs.length = 2 := hx
 have c3 : Try.prog.cellsOf 3 = 1 := by kernel_rfl
 match cs, hl with
 | [a, b], _ =>
  have h0 : DataW.trod enc Try.prog w base spare held n 3 (([a, b].drop 0).take (Try.prog.cellsOf 3)) = xs[0]? := hf 0 _ rfl
  have h1 : DataW.trod enc Try.prog w base spare held n 3 (([a, b].drop 1).take (Try.prog.cellsOf 3)) = xs[1]? := hf 1 _ rfl
  rw [c3] at h0 h1
  rw [List.getElem?_eq_getElem (by omega)] at h0 h1
  obtain ⟨p, hp⟩ := XN Tryz.underlying3 h0
  obtain ⟨q, hq⟩ := XN Tryz.underlying3 h1
  simp only [List.drop_zero, List.drop_succ_cons, List.take_succ_cons, List.take_zero, List.cons.injEq, and_true] at hp hq
  subst hp hq
  exact ⟨⟨p, q⟩, rfl, rfl⟩
theorem BIA : Wk X enc Try.prog w base spare held 30 3 uX := by
 refine ⟨by kernel_rfl, λ fuel cs x h hl => ?_⟩
 obtain ⟨xs, n, _, _, _, hx, hf⟩ := DataW.trod_struct Tryz.underlying30 h
 have hx : xs.length = 2 := hx
 have c3 : Try.prog.cellsOf 3 = 1 := by kernel_rfl
 have c28 : Try.prog.cellsOf 28 = 2 := by kernel_rfl
 match cs, hl with
 | [a, b, c], _ =>
  have h0 : DataW.trod enc Try.prog w base spare held n 3 (([a, b, c].drop 0).take (Try.prog.cellsOf 3)) = xs[0]? := hf 0 _ rfl
  have h1 : DataW.trod enc Try.prog w base spare held n 28 (([a, b, c].drop 1).take (Try.prog.cellsOf 28)) = xs[1]? := hf 1 _ rfl
  rw [c3] at h0
  rw [c28] at h1
  rw [List.getElem?_eq_getElem (by omega)] at h0 h1
  obtain ⟨p, hp⟩ := XN Tryz.underlying3 h0
  simp only [List.drop_zero, List.drop_succ_cons, List.take_succ_cons, List.take_zero, List.cons.injEq, and_true] at hp h1
  subst hp
  obtain ⟨⟨s, t⟩, he, _⟩ := BDG.2 n _ _ h1 rfl
  have he : [DVal.v (.int .i64 s), DVal.v (.int .i64 t)] = [DVal.v b, DVal.v c] := he
  cases he
  exact ⟨⟨p, s, t⟩, rfl, rfl⟩
theorem AJZ : Wk X enc Try.prog w base spare held 72 4 eLn := by
 refine ⟨by kernel_rfl, λ fuel cs x h hl => ?_⟩
 obtain ⟨xs, n, _, _, _, hx, hf⟩ := DataW.trod_struct Tryz.underlying72 h
 have hx : xs.length = 2 := hx
 have c70 : Try.prog.cellsOf 70 = 2 := by kernel_rfl
 match cs, hl with
 | [a, b, c, d], _ =>
  have h0 : DataW.trod enc Try.prog w base spare held n 70 (([a, b, c, d].drop 0).take (Try.prog.cellsOf 70)) = xs[0]? := hf 0 _ rfl
  have h1 : DataW.trod enc Try.prog w base spare held n 70 (([a, b, c, d].drop 2).take (Try.prog.cellsOf 70)) = xs[1]? := hf 1 _ rfl
  rw [c70] at h0 h1
  rw [List.getElem?_eq_getElem (by omega)] at h0 h1
  simp only [List.drop_zero, List.drop_succ_cons, List.take_succ_cons, List.take_zero] at h0 h1
  obtain ⟨⟨p, q⟩, he, _⟩ := BAR.2 n _ _ h0 rfl
  have he : [DVal.v (.int .i64 p), DVal.v (.int .i64 q)] = [DVal.v a, DVal.v b] := he
  cases he
  obtain ⟨⟨s, t⟩, he, _⟩ := BAR.2 n _ _ h1 rfl
  have he : [DVal.v (.int .i64 s), DVal.v (.int .i64 t)] = [DVal.v c, DVal.v d] := he
  cases he
  exact ⟨⟨p, q, s, t⟩, rfl, rfl⟩
theorem BWH : Wk X enc Try.prog w base spare held 3 1 CH := BFM Tryz.underlying3 (by kernel_rfl)
theorem BPJ {a b : DVal} {x y : Value} {B : IB} (h1 : DRel B a x) (h2 : DRel B b y) : DRel B (.agg [a, b]) (.agg #[x, y]) := by
 refine .agg rfl λ j p q hp hq => ?_
 match j with
 | 0 => cases hp; cases hq; exact h1
 | 1 => cases hp; cases hq; exact h2
 | j + 2 => simp at hp
theorem AWT {t f0 f1 : TypeId} {fs : Array Field} {v : Value} {d : DataW X} {ps : List MemPlace} {r : Go.Reach} {b0 : Nat} (ht : Try.prog.underlying t = some (.struct fs)) (hc : Try.prog.cellsOf t = 2)
  (h0 : (fs[0]?).map (λ f => (f.type, f.offset)) = some (f0, 0)) (h1 : (fs[1]?).map (λ f => (f.type, f.offset)) = some (f1, 1)) (c0 : Try.prog.cellsOf f0 = 1) (c1 : Try.prog.cellsOf f1 = 1)
  (hv : Value.okWide Try.prog w r b0 t v) (h : DataW.Trod enc Try.prog w base spare held t v d ps) :
  ∃ a b fuel x y, v = .agg #[a, b] /\ DataW.trod enc Try.prog w base spare held fuel f0 [a] = some x /\ DataW.trod enc Try.prog w base spare held fuel f1 [b] = some y := by
 obtain ⟨cs, rfl, hs⟩ := okWide_struct ht hv
 rw [hc] at hs
 obtain ⟨fuel, hf⟩ := h
 obtain ⟨xs, n, _, _, _, hx, hff⟩ := DataW.trod_struct ht hf
 cases hq0 : fs[0]? with
 | none => rw [hq0] at h0; cases h0
 | some g0 =>
  cases hq1 : fs[1]? with
  | none => rw [hq1] at h1; cases h1
  | some g1 =>
   rw [hq0] at h0; rw [hq1] at h1
   simp only [Option.map_some, Option.some.injEq, Prod.mk.injEq] at h0 h1
   obtain ⟨rfl, e0⟩ := h0
   obtain ⟨rfl, e1⟩ := h1
   have k0 := hff 0 g0 hq0
   have k1 := hff 1 g1 hq1
   have s0 := (Array.getElem?_eq_some_iff.1 hq0).1
   have s1 := (Array.getElem?_eq_some_iff.1 hq1).1
   rw [List.getElem?_eq_getElem (by omega), c0, e0] at k0
   rw [List.getElem?_eq_getElem (by omega), c1, e1] at k1
   obtain ⟨l⟩ := cs
   match l, hs with
   | [a, b], _ => exact ⟨a, b, n, _, _, rfl, k0, k1⟩
theorem BKK {v : Value} {d : DataW X} {ps : List MemPlace} {r : Go.Reach} {b0 : Nat} (hv : Value.okWide Try.prog w r b0 22 v) (h : DataW.Trod enc Try.prog w base spare held 22 v d ps) : ∃ l : List Gau, DRel (Fo w) (BE l) v := by
 obtain ⟨a, len, cap, rfl⟩ := okWide_slice Tryz.underlying22 hv
 obtain ⟨fuel, hf⟩ := h
 exact ARC (by omega) Tryz.underlying22 BIA hf
theorem BNT {v : Value} {d : DataW X} {ps : List MemPlace} {r : Go.Reach} {b0 : Nat} (hv : Value.okWide Try.prog w r b0 41 v) (h : DataW.Trod enc Try.prog w base spare held 41 v d ps) : ∃ q : Rtg, DRel (Fo w) (E4 q) v := by
 obtain ⟨a, b, fuel, x, y, rfl, h0, h1⟩ := AWT Tryz.underlying41 (by kernel_rfl) (f0 := 23) (f1 := 39) rfl rfl (by kernel_rfl) (by kernel_rfl) hv h
 obtain ⟨g, hg⟩ := ARC (by omega) Tryz.underlying23 BWH h0
 obtain ⟨l, hl⟩ := ARC (by omega) Tryz.underlying39 AJZ h1
 exact ⟨⟨g, l⟩, BPJ hg hl⟩
theorem BFG {v : Value} {d : DataW X} {ps : List MemPlace} {r : Go.Reach} {b0 : Nat} (hv : Value.okWide Try.prog w r b0 72 v) (h : DataW.Trod enc Try.prog w base spare held 72 v d ps) : ∃ x : Ln, DRel (Fo w) (eLn x) v := by
 obtain ⟨cs, rfl, hs⟩ := okWide_struct Tryz.underlying72 hv
 rw [show Try.prog.cellsOf 72 = 4 by kernel_rfl] at hs
 obtain ⟨fuel, hf⟩ := h
 obtain ⟨l⟩ := cs
 obtain ⟨x, he, _⟩ := AJZ.2 fuel l _ hf hs
 match l, hs with
 | [a, b, c, e], _ =>
  have he : [DVal.v (.int .i64 x.a0), DVal.v (.int .i64 x.a1), DVal.v (.int .i64 x.b0), DVal.v (.int .i64 x.b1)] = [DVal.v a, DVal.v b, DVal.v c, DVal.v e] := he
  cases he
  refine ⟨x, .agg rfl λ j p q hp hq => ?_⟩
  match j with
  | 0 => cases hp; cases hq; exact .v _
  | 1 => cases hp; cases hq; exact .v _
  | 2 => cases hp; cases hq; exact .v _
  | 3 => cases hp; cases hq; exact .v _
  | j + 4 => simp at hp
theorem BPY {v : Value} {d : DataW X} {ps : List MemPlace} {r : Go.Reach} {b0 : Nat} (hv : Value.okWide Try.prog w r b0 3 v) (h : DataW.Trod enc Try.prog w base spare held 3 v d ps) : ∃ n : Int, (-9223372036854775808 <= n /\ n <= 9223372036854775807) /\ DRel (Fo w) (.v (.int .i64 n)) v := by
 obtain ⟨m, rfl⟩ := okWide_int Tryz.underlying3 hv
 obtain ⟨fuel, hf⟩ := h
 obtain ⟨n, e, _, hw⟩ := DataW.trod_int Tryz.underlying3 hf
 have e : [Value.int .i64 m] = [.int .i64 n] := e
 cases e
 have hw : (decide (IntKind.i64.min <= m) && decide (m <= IntKind.i64.max)) = true := hw
 simp only [Bool.and_eq_true, decide_eq_true_eq] at hw
 have e1 : IntKind.i64.min = -9223372036854775808 := rfl
 have e2 : IntKind.i64.max = 9223372036854775807 := rfl
 exact ⟨m, ⟨by omega, by omega⟩, .v _⟩
end
theorem BDA {g : FuncId} {xs : List AVal} (hg : FnT Try.prog g xs (AC []) (.bool true) []) {w : World} {vs : Array Value} (hl : vs.size = xs.length)
  (hx : ∀ (j : Nat) (a : AVal) (y : Value), xs[j]? = some a -> vs[j]? = some y -> ∃ d, a = .d d /\ DRel (Fo w) d y) :
  Calls Try.prog g vs w λ e w' => e = .returned (.bool true) /\ Below w.heap.size w w' := by
 refine (hg.2 (Fo w) (λ _ => ⟨0, 0⟩) w vs ⟨hl, λ j a y ha hy => ?_⟩ (BHN w _)).mono λ e w' ⟨v, H', he, _, B', ι', hm, hv⟩ => ?_
 ·obtain ⟨d, rfl, hd⟩ := hx j a y ha hy
  exact .d hd
 ·subst he
  cases hv with
  | d hd =>
   cases hd
   exact ⟨rfl, hm.calm.os, hm.calm.tape, hm.calm.output, hm.size, λ k hk => hm.frame k hk λ i o h => by simp [AC, CS] at h⟩
end Go.Bal
