/- Arguments that came in, as data; and what a call that owns nothing leaves. -/
import Derived.Test.YtdbjalgfomknhaaGreatChZg
import Derived.Test.YtdbjalgfomknhaaGreatRows
import Derived.WalkKit
import Derived.ProofKit
import Derived.OpenShut
import Derived.ShutString
import Derived.ChangeOld
import Derived.Below
import Derived.ChangeArms
import Derived.Test.YtdbjalgfomknhaaGreatChSp
set_option linter.unusedVariables false
set_option linter.unusedSimpArgs false
set_option maxRecDepth 100000
namespace Go.Bal
open Go Go.Sym Go.Proofs Go.ChangeShapes Go.WideShapes Go.RowKit
theorem BEM {α : Type} [Inhabited α] (f : Nat -> α) {n i : Nat} (h : i < n) : gD ((List.range n).map f) i = f i := by
 simp [gD, List.getD_eq_getElem?_getD, h]
def jR (w : World) : Gu := λ b => match w.heap[b]? with
 | some (.cells c _ _) => some c
 | _ => none
theorem BER (w : World) (ι : Nat -> Pl) : HRel (jR w) ι (AB []) w := by
 refine ⟨λ i o h => by simp [AB, MF] at h, λ i j o o' h => by simp [AB, MF] at h, λ i o h => by simp [AB, MF] at h, λ b c h => ?_⟩
 unfold jR at h
 split at h
 ·rename_i c' e fr hc
  cases h
  exact ⟨e, fr, hc⟩
 ·cases h
theorem AQO {w : World} {b off : Nat} {v : Value} (h : w.cell? ⟨b, off, none⟩ = some v) : ∃ c, jR w b = some c /\ c[off]? = some v := by
 unfold World.cell? at h
 simp only at h
 split at h
 ·rename_i c e fr hc
  simp only [Option.isSome_none, Bool.false_eq_true, ↓reduceIte] at h
  exact ⟨c, by unfold jR; rw [hc], h⟩
 ·cases h
section
variable {X : Type} {enc : TypeId × Value -> X} {P : Program} {w : World} {base : Nat} {spare : Nat -> Bool} {held : Bool}
def ABR (X : Type) (enc : TypeId × Value -> X) (P : Program) (w : World) (base : Nat) (spare : Nat -> Bool) (held : Bool) (e : TypeId) (k : Nat) {α : Type} (en : α -> DVal) : Prop :=
 P.cellsOf e = k /\ ∀ (fuel : Nat) (cs : List Value) (x : DataW X × List MemPlace), DataW.trod enc P w base spare held fuel e cs = some x -> cs.length = k -> ∃ d : α, (en d).cells1 = cs.map DVal.v /\ IG (en d).cells1 = true
theorem AOD {α : Type} [Inhabited α] {t e : TypeId} {k : Nat} {en : α -> DVal} (hk : 0 < k) (ht : P.underlying t = some (.slice e)) (he : ABR X enc P w base spare held e k en) {fuel : Nat} {v : Value} {x : DataW X × List MemPlace}
  (h : DataW.trod enc P w base spare held fuel t [v] = some x) : ∃ l : List α, DRel (jR w) (lst k l.length λ i => en (gD l i)) v := by
 rcases DataW.trod_slice ht h with ⟨h0, _⟩ | ⟨a, len, cap, elems, rest, n, _, hv, _, hb, hl, hm, hlen, hel, _⟩
 ·cases h0
  exact ⟨[], .nil (λ h => by cases h) (.inl rfl)⟩
 ·cases hv
  by_cases h0 : len = 0
  ·subst h0
   exact ⟨[], .nil (λ h => by cases h) (.inr (by simp))⟩
  obtain ⟨hck, hE⟩ := he
  have each : ∀ i, ∃ (d : α) (cs : List Value), i < len -> w.cells? base (a.add (i * k)) k = some cs /\ (en d).cells1 = cs.map DVal.v /\ IG (en d).cells1 = true := by
   intro i
   by_cases hi : i < len
   ·have h1 := hel i hi
    have h2 : elems[i]? = some (elems[i]'(by omega)) := List.getElem?_eq_getElem (by omega)
    rw [h2, Option.bind_eq_some_iff] at h1
    obtain ⟨cs, h3, h4⟩ := h1
    rw [hck] at h3
    obtain ⟨d, h5⟩ := hE n cs _ h4 (World.cells?_some h3).2.1
    exact ⟨d, cs, λ _ => ⟨h3, h5⟩⟩
   ·exact ⟨default, [], λ h => absurd h hi⟩
  have cell : ∀ i j, i < len -> j < k -> ∃ y, (en (Classical.choose (each i))).cells1[j]? = some (.v y) /\ w.cell? ((a.add (i * k)).add j) = some y := by
   intro i j hi hj
   obtain ⟨cs, hcs⟩ := Classical.choose_spec (each i)
   obtain ⟨h1, h2, _⟩ := hcs hi
   obtain ⟨_, h3, h4⟩ := World.cells?_some h1
   have h5 : cs[j]? = some (cs[j]'(by omega)) := List.getElem?_eq_getElem (by omega)
   refine ⟨cs[j]'(by omega), ?_, ?_⟩
   ·rw [h2, List.getElem?_map, h5]; rfl
   ·rw [h4 j hj, h5]
  have hspot : a.spot = none := by
   obtain ⟨y, _, h1⟩ := cell 0 0 (by omega) hk
   have := World.cell?_spot h1
   simpa [Addr.add] using this
  obtain ⟨b, off, spot⟩ := a
  simp only at hspot
  subst hspot
  have cell' : ∀ i j, i < len -> j < k -> ∃ y, (en (Classical.choose (each i))).cells1[j]? = some (.v y) /\ w.cell? ⟨b, off + i * k + j, none⟩ = some y := by
   intro i j hi hj
   obtain ⟨y, h1, h2⟩ := cell i j hi hj
   refine ⟨y, h1, ?_⟩
   have : ((Addr.mk b off none).add (i * k)).add j = ⟨b, off + i * k + j, none⟩ := by
    unfold Addr.add
    split <;> split <;> simp_all
   rw [<- this]; exact h2
  obtain ⟨y0, _, hc0⟩ := cell' 0 0 (by omega) hk
  obtain ⟨c, hB, _⟩ := AQO hc0
  have at' : ∀ i j, i < len -> j < k -> ∃ y, (en (Classical.choose (each i))).cells1[j]? = some (.v y) /\ c[off + i * k + j]? = some y := by
   intro i j hi hj
   obtain ⟨y, h1, h2⟩ := cell' i j hi hj
   obtain ⟨c', h3, h4⟩ := AQO h2
   rw [hB] at h3; cases h3
   exact ⟨y, h1, h4⟩
  have hg : ∀ i, i < len -> gD ((List.range len).map λ i => Classical.choose (each i)) i = Classical.choose (each i) := λ i hi => BEM _ hi
  have hll : ((List.range len).map λ i => Classical.choose (each i)).length = len := by simp
  refine ⟨(List.range len).map λ i => Classical.choose (each i), ?_⟩
  rw [hll]
  have e1 : ∀ i, i < len -> (en (Classical.choose (each i))).cells1.length = k := by
   intro i hi
   obtain ⟨cs, hcs⟩ := Classical.choose_spec (each i)
   obtain ⟨h1, h2, _⟩ := hcs hi
   rw [h2, List.length_map]; exact (World.cells?_some h1).2.1
  refine DRel.list (by omega) hB hl (λ h => by cases h) (λ i hi => ?_) ?_ (λ i j x y hi hx hy => ?_)
  ·rw [hg i hi]
   obtain ⟨cs, hcs⟩ := Classical.choose_spec (each i)
   exact ⟨e1 i hi, (hcs hi).2.2⟩
  ·obtain ⟨y, _, h1⟩ := at' (len - 1) (k - 1) (by omega) (by omega)
   have h2 := (Array.getElem?_eq_some_iff.1 h1).1
   have h3 : len * k = (len - 1) * k + k := by
    obtain ⟨m, rfl⟩ : ∃ m, len = m + 1 := ⟨len - 1, by omega⟩
    rw [Nat.add_sub_cancel, Nat.succ_mul]
   omega
  ·rw [hg i hi] at hx
   have hj : j < k := by
    have := (List.getElem?_eq_some_iff.1 hx).1
    have := e1 i hi
    omega
   obtain ⟨z, h1, h2⟩ := at' i j hi hj
   rw [h1] at hx; rw [h2] at hy
   cases hx; cases hy
   exact .v _
theorem TZ {e : TypeId} {fuel : Nat} {cs : List Value} {x : DataW X × List MemPlace} (he : P.underlying e = some (.int .i64)) (h : DataW.trod enc P w base spare held fuel e cs = some x) : ∃ n, cs = [.int .i64 n] := by
 obtain ⟨n, h1, _, _⟩ := DataW.trod_int he h
 exact ⟨n, h1⟩
end
section
variable {X : Type} {enc : TypeId × Value -> X} {w : World} {base : Nat} {spare : Nat -> Bool} {held : Bool}
theorem E8 : ABR X enc Try.prog w base spare held 23 2 IK := by
 refine ⟨by kernel_rfl, λ fuel cs x h hl => ?_⟩
 obtain ⟨xs, n, _, _, _, hx, hf⟩ := DataW.trod_struct Tryz.underlying23 h
 have hx : xs.length = 2 := hx
 have c3 : Try.prog.cellsOf 3 = 1 := by kernel_rfl
 match cs, hl with
 | [a, b], _ =>
  have h0 : DataW.trod enc Try.prog w base spare held n 3 (([a, b].drop 0).take (Try.prog.cellsOf 3)) = xs[0]? := hf 0 _ rfl
  have h1 : DataW.trod enc Try.prog w base spare held n 3 (([a, b].drop 1).take (Try.prog.cellsOf 3)) = xs[1]? := hf 1 _ rfl
  rw [c3] at h0 h1
  rw [List.getElem?_eq_getElem (by omega)] at h0 h1
  obtain ⟨p, hp⟩ := TZ Tryz.underlying3 h0
  obtain ⟨q, hq⟩ := TZ Tryz.underlying3 h1
  simp only [List.drop_zero, List.drop_succ_cons, List.take_succ_cons, List.take_zero, List.cons.injEq, and_true] at hp hq
  subst hp hq
  exact ⟨⟨p, q⟩, rfl, rfl⟩
theorem BMC : ABR X enc Try.prog w base spare held 92 2 eMk := by
 refine ⟨by kernel_rfl, λ fuel cs x h hl => ?_⟩
 obtain ⟨xs, n, _, _, _, hx, hf⟩ := DataW.trod_struct Tryz.underlying92 h
 have hx : xs.length = 2 := hx
 have c3 : Try.prog.cellsOf 3 = 1 := by kernel_rfl
 match cs, hl with
 | [a, b], _ =>
  have h0 : DataW.trod enc Try.prog w base spare held n 3 (([a, b].drop 0).take (Try.prog.cellsOf 3)) = xs[0]? := hf 0 _ rfl
  have h1 : DataW.trod enc Try.prog w base spare held n 3 (([a, b].drop 1).take (Try.prog.cellsOf 3)) = xs[1]? := hf 1 _ rfl
  rw [c3] at h0 h1
  rw [List.getElem?_eq_getElem (by omega)] at h0 h1
  obtain ⟨p, hp⟩ := TZ Tryz.underlying3 h0
  obtain ⟨q, hq⟩ := TZ Tryz.underlying3 h1
  simp only [List.drop_zero, List.drop_succ_cons, List.take_succ_cons, List.take_zero, List.cons.injEq, and_true] at hp hq
  subst hp hq
  exact ⟨⟨p, q⟩, rfl, rfl⟩
theorem BPU : ABR X enc Try.prog w base spare held 94 5 eNt := by
 refine ⟨by kernel_rfl, λ fuel cs x h hl => ?_⟩
 obtain ⟨xs, n, _, _, _, hx, hf⟩ := DataW.trod_struct Tryz.underlying94 h
 have hx : xs.length = 3 := hx
 have c3 : Try.prog.cellsOf 3 = 1 := by kernel_rfl
 have c23 : Try.prog.cellsOf 23 = 2 := by kernel_rfl
 match cs, hl with
 | [a, b, c, d, e], _ =>
  have h0 : DataW.trod enc Try.prog w base spare held n 3 (([a, b, c, d, e].drop 0).take (Try.prog.cellsOf 3)) = xs[0]? := hf 0 _ rfl
  have h1 : DataW.trod enc Try.prog w base spare held n 23 (([a, b, c, d, e].drop 1).take (Try.prog.cellsOf 23)) = xs[1]? := hf 1 _ rfl
  have h2 : DataW.trod enc Try.prog w base spare held n 23 (([a, b, c, d, e].drop 3).take (Try.prog.cellsOf 23)) = xs[2]? := hf 2 _ rfl
  rw [c3] at h0
  rw [c23] at h1 h2
  rw [List.getElem?_eq_getElem (by omega)] at h0 h1 h2
  obtain ⟨p, hp⟩ := TZ Tryz.underlying3 h0
  simp only [List.drop_zero, List.drop_succ_cons, List.take_succ_cons, List.take_zero, List.cons.injEq, and_true] at hp h1 h2
  subst hp
  obtain ⟨⟨s, t⟩, he, _⟩ := E8.2 n _ _ h1 rfl
  have he : [DVal.v (.int .i64 s), DVal.v (.int .i64 t)] = [DVal.v b, DVal.v c] := he
  cases he
  obtain ⟨⟨s2, t2⟩, he, _⟩ := E8.2 n _ _ h2 rfl
  have he : [DVal.v (.int .i64 s2), DVal.v (.int .i64 t2)] = [DVal.v d, DVal.v e] := he
  cases he
  exact ⟨⟨p, ⟨s, t⟩, ⟨s2, t2⟩⟩, rfl, rfl⟩
theorem BCJ {v : Value} {d : DataW X} {ps : List MemPlace} {r : Go.Reach} {b0 : Nat} (hv : Value.okWide Try.prog w r b0 27 v) (h : DataW.Trod enc Try.prog w base spare held 27 v d ps) : ∃ c : Cht, DRel (jR w) (Ak c) v := by
 obtain ⟨cs, rfl, hs⟩ := okWide_struct Tryz.underlying27 hv
 rw [show Try.prog.cellsOf 27 = 7 by kernel_rfl] at hs
 obtain ⟨fuel, hf⟩ := h
 obtain ⟨l⟩ := cs
 obtain ⟨xs, n, _, _, _, hx, hff⟩ := DataW.trod_struct Tryz.underlying27 hf
 have hx : xs.length = 6 := hx
 have c3 : Try.prog.cellsOf 3 = 1 := by kernel_rfl
 have c23 : Try.prog.cellsOf 23 = 2 := by kernel_rfl
 have c24 : Try.prog.cellsOf 24 = 1 := by kernel_rfl
 have c25 : Try.prog.cellsOf 25 = 1 := by kernel_rfl
 match l, hs with
 | [a, b, c, e, f, g, k], _ =>
  have h0 : DataW.trod enc Try.prog w base spare held n 23 (([a, b, c, e, f, g, k].drop 0).take (Try.prog.cellsOf 23)) = xs[0]? := hff 0 _ rfl
  have h1 : DataW.trod enc Try.prog w base spare held n 3 (([a, b, c, e, f, g, k].drop 2).take (Try.prog.cellsOf 3)) = xs[1]? := hff 1 _ rfl
  have h2 : DataW.trod enc Try.prog w base spare held n 3 (([a, b, c, e, f, g, k].drop 3).take (Try.prog.cellsOf 3)) = xs[2]? := hff 2 _ rfl
  have h3 : DataW.trod enc Try.prog w base spare held n 3 (([a, b, c, e, f, g, k].drop 4).take (Try.prog.cellsOf 3)) = xs[3]? := hff 3 _ rfl
  have h4 : DataW.trod enc Try.prog w base spare held n 24 (([a, b, c, e, f, g, k].drop 5).take (Try.prog.cellsOf 24)) = xs[4]? := hff 4 _ rfl
  have h5 : DataW.trod enc Try.prog w base spare held n 25 (([a, b, c, e, f, g, k].drop 6).take (Try.prog.cellsOf 25)) = xs[5]? := hff 5 _ rfl
  rw [c23] at h0
  rw [c3] at h1 h2 h3
  rw [c24] at h4
  rw [c25] at h5
  rw [List.getElem?_eq_getElem (by omega)] at h0 h1 h2 h3 h4 h5
  simp only [List.drop_zero, List.drop_succ_cons, List.take_succ_cons, List.take_zero] at h0 h1 h2 h3 h4 h5
  obtain ⟨⟨s, t⟩, he, _⟩ := E8.2 n _ _ h0 rfl
  have he : [DVal.v (.int .i64 s), DVal.v (.int .i64 t)] = [DVal.v a, DVal.v b] := he
  cases he
  obtain ⟨x1, e1⟩ := TZ Tryz.underlying3 h1
  obtain ⟨x2, e2⟩ := TZ Tryz.underlying3 h2
  obtain ⟨x3, e3⟩ := TZ Tryz.underlying3 h3
  cases e1; cases e2; cases e3
  obtain ⟨m, hm⟩ := AOD (by omega) Tryz.underlying24 BMC h4
  obtain ⟨o, ho⟩ := AOD (by omega) Tryz.underlying25 BPU h5
  refine ⟨⟨⟨s, t⟩, x1, x2, x3, m, o⟩, .agg rfl λ j p q hp hq => ?_⟩
  match j with
  | 0 => cases hp; cases hq; exact .v _
  | 1 => cases hp; cases hq; exact .v _
  | 2 => cases hp; cases hq; exact .v _
  | 3 => cases hp; cases hq; exact .v _
  | 4 => cases hp; cases hq; exact .v _
  | 5 => cases hp; cases hq; exact hm
  | 6 => cases hp; cases hq; exact ho
  | j + 7 => simp at hp
theorem BNA {v : Value} {d : DataW X} {ps : List MemPlace} {r : Go.Reach} {b0 : Nat} (hv : Value.okWide Try.prog w r b0 3 v) (h : DataW.Trod enc Try.prog w base spare held 3 v d ps) : ∃ n : Int, (-9223372036854775808 <= n /\ n <= 9223372036854775807) /\ DRel (jR w) (.v (.int .i64 n)) v := by
 obtain ⟨m, rfl⟩ := okWide_int Tryz.underlying3 hv
 obtain ⟨fuel, hf⟩ := h
 obtain ⟨n, e, _, hw⟩ := DataW.trod_int Tryz.underlying3 hf
 have e : [Value.int .i64 m] = [.int .i64 n] := e
 cases e
 have hw : (decide (IntKind.i64.min <= m) && decide (m <= IntKind.i64.max)) = true := hw
 simp only [Bool.and_eq_true, decide_eq_true_eq] at hw
 have e1 : IntKind.i64.min = -9223372036854775808 := rfl
 have e2 : IntKind.i64.max = 9223372036854775807 := rfl
 exact ⟨m, ⟨by omega, by omega⟩, .v _⟩
end
theorem BBP {g : FuncId} {xs : List AVal} (hg : FnT Try.prog g xs (AB []) (.bool true) []) {w : World} {vs : Array Value} (hl : vs.size = xs.length)
  (hx : ∀ (j : Nat) (a : AVal) (y : Value), xs[j]? = some a -> vs[j]? = some y -> ∃ d, a = .d d /\ DRel (jR w) d y) :
  Calls Try.prog g vs w λ e w' => e = .returned (.bool true) /\ Below w.heap.size w w' := by
 refine (hg.2 (jR w) (λ _ => ⟨0, 0⟩) w vs ⟨hl, λ j a y ha hy => ?_⟩ (BER w _)).mono λ e w' ⟨v, H', he, _, B', ι', hm, hv⟩ => ?_
 ·obtain ⟨d, rfl, hd⟩ := hx j a y ha hy
  exact .d hd
 ·subst he
  cases hv with
  | d hd =>
   cases hd
   exact ⟨rfl, hm.calm.os, hm.calm.tape, hm.calm.output, hm.size, λ k hk => hm.frame k hk λ i o h => by simp [AB, MF] at h⟩
end Go.Bal

set_option maxRecDepth 100000
namespace Go.Bal
open Go Go.Sym Go.Proofs Go.ChangeShapes Go.WideShapes Go.RowKit
section
variable {X : Type} {enc : TypeId × Value -> X} {w : World} {base : Nat} {spare : Nat -> Bool} {held : Bool}
theorem BNJ : ABR X enc Try.prog w base spare held 51 2 ePr := by
 refine ⟨by kernel_rfl, λ fuel cs x h hl => ?_⟩
 obtain ⟨xs, n, _, _, _, hx, hf⟩ := DataW.trod_struct Tryz.underlying51 h
 have hx : xs.length = 2 := hx
 have c3 : Try.prog.cellsOf 3 = 1 := by kernel_rfl
 match cs, hl with
 | [a, b], _ =>
  have h0 : DataW.trod enc Try.prog w base spare held n 3 (([a, b].drop 0).take (Try.prog.cellsOf 3)) = xs[0]? := hf 0 _ rfl
  have h1 : DataW.trod enc Try.prog w base spare held n 3 (([a, b].drop 1).take (Try.prog.cellsOf 3)) = xs[1]? := hf 1 _ rfl
  rw [c3] at h0 h1
  rw [List.getElem?_eq_getElem (by omega)] at h0 h1
  obtain ⟨p, hp⟩ := TZ Tryz.underlying3 h0
  obtain ⟨q, hq⟩ := TZ Tryz.underlying3 h1
  simp only [List.drop_zero, List.drop_succ_cons, List.take_succ_cons, List.take_zero, List.cons.injEq, and_true] at hp hq
  subst hp hq
  exact ⟨⟨p, q⟩, rfl, rfl⟩
theorem BBK {v : Value} {d : DataW X} {ps : List MemPlace} {r : Go.Reach} {b0 : Nat} (hv : Value.okWide Try.prog w r b0 52 v) (h : DataW.Trod enc Try.prog w base spare held 52 v d ps) : ∃ l : List Pr, DRel (jR w) (Kw l) v := by
 obtain ⟨a, len, cap, rfl⟩ := okWide_slice Tryz.underlying52 hv
 obtain ⟨fuel, hf⟩ := h
 exact AOD (by omega) Tryz.underlying52 BNJ hf
theorem BED {v : Value} {d : DataW X} {ps : List MemPlace} {r : Go.Reach} {b0 : Nat} (hv : Value.okWide Try.prog w r b0 51 v) (h : DataW.Trod enc Try.prog w base spare held 51 v d ps) : ∃ c : Pr, DRel (jR w) (ePr c) v := by
 obtain ⟨cs, rfl, hs⟩ := okWide_struct Tryz.underlying51 hv
 rw [show Try.prog.cellsOf 51 = 2 by kernel_rfl] at hs
 obtain ⟨fuel, hf⟩ := h
 obtain ⟨l⟩ := cs
 obtain ⟨xs, n, _, _, _, hx, hff⟩ := DataW.trod_struct Tryz.underlying51 hf
 have hx : xs.length = 2 := hx
 have c3 : Try.prog.cellsOf 3 = 1 := by kernel_rfl
 match l, hs with
 | [a, b], _ =>
  have h0 : DataW.trod enc Try.prog w base spare held n 3 (([a, b].drop 0).take (Try.prog.cellsOf 3)) = xs[0]? := hff 0 _ rfl
  have h1 : DataW.trod enc Try.prog w base spare held n 3 (([a, b].drop 1).take (Try.prog.cellsOf 3)) = xs[1]? := hff 1 _ rfl
  rw [c3] at h0 h1
  rw [List.getElem?_eq_getElem (by omega)] at h0 h1
  simp only [List.drop_zero, List.drop_succ_cons, List.take_succ_cons, List.take_zero] at h0 h1
  obtain ⟨x1, e1⟩ := TZ Tryz.underlying3 h0
  obtain ⟨x2, e2⟩ := TZ Tryz.underlying3 h1
  cases e1; cases e2
  refine ⟨⟨x1, x2⟩, .agg rfl λ j p q hp hq => ?_⟩
  match j with
  | 0 => cases hp; cases hq; exact .v _
  | 1 => cases hp; cases hq; exact .v _
  | j + 2 => simp at hp
end
end Go.Bal
