/- Package chart: Holds. -/
import Derived.Test.YtdbjalgfomknhaaGreatChL
import Derived.Test.YtdbjalgfomknhaaGreatChT2
set_option linter.unusedVariables false
set_option linter.unusedSimpArgs false
namespace Go.Bal
open Go Go.Sym Go.Proofs
structure CT where
 c : Cht
 t : Tru
def hd1 (x : CT) (i : Nat) : Bool := TP (gD x.t.t i) (gD (Gt x.c) i).lo (gD (Gt x.c) i).hi && TP (gD x.t.s i) (QF x.c i).lo (QF x.c i).hi
end Go.Bal

namespace Go.Bal
open Go Go.Sym Go.Proofs
def XL (c : Cht) (g : Nat) : Int := (gD c.ms (g + 1)).pl - (gD c.ms g).pl
def gapP (c : Cht) (sp : Nat -> Bool) (g : Nat) : Span := ⟨c.p.lo * XL c g, bif sp g then 200000000 else c.p.hi * XL c g⟩
theorem ChOk.far {c : Cht} (h : ChOk c) {g : Nat} (hg : g + 1 < c.ms.length) : 1 <= XL c g /\ XL c g <= 10000 := by
 have h1 := h.up g hg
 have h2 := h.mks g (by omega)
 have h3 := h.mks (g + 1) hg
 unfold XL; omega
theorem ChOk.gap {c : Cht} (h : ChOk c) (sp : Nat -> Bool) {g : Nat} (hg : g + 1 < c.ms.length) : (1 <= c.p.lo * XL c g /\ c.p.lo * XL c g <= 6000000) /\ (c.p.lo * XL c g <= c.p.hi * XL c g /\ c.p.hi * XL c g <= 6000000) /\ (gapP c sp g).lo <= (gapP c sp g).hi := by
 obtain ⟨f1, f2⟩ := h.far hg
 obtain ⟨p1, p2, p3⟩ := h.p
 have a1 := mulb (a := c.p.lo) (b := XL c g) (A := 600) (B := 10000) (by omega) (by omega) (by omega) f2
 have a2 := mulb (a := c.p.hi) (b := XL c g) (A := 600) (B := 10000) (by omega) (by omega) (by omega) f2
 have a3 : c.p.lo * XL c g <= c.p.hi * XL c g := Int.mul_le_mul_of_nonneg_right p2 (by omega)
 have a4 : 1 * 1 <= c.p.lo * XL c g := Int.mul_le_mul p1 f1 (by omega) (by omega)
 refine ⟨by omega, by omega, ?_⟩
 show c.p.lo * XL c g <= bif sp g then 200000000 else c.p.hi * XL c g
 cases sp g
 ·exact a3
 ·show _ <= (200000000 : Int); omega
theorem dH {w : Dk} (h : ChOk w.c) {g : Nat} (hg : g + 1 < w.c.ms.length) : SZ w g = gapP w.c w.sp g := by
 obtain ⟨f1, f2⟩ := h.far hg
 obtain ⟨a1, a2, _⟩ := h.gap w.sp hg
 have e : farM w.c g = XL w.c g := by unfold farM wr; unfold XL at *; exact Dh (by omega) (by omega)
 unfold SZ gapP
 rw [e]
 unfold wr
 rw [Dh (by omega) (by omega), Dh (by omega) (by omega)]
theorem tR {w : Dk} (h : ChOk w.c) : gpOk (SZ w) (w.c.ms.length - 1) := λ g hg => by
 obtain ⟨a1, a2, a3⟩ := h.gap w.sp (g := g) (by omega)
 rw [dH h (by omega)]
 refine ⟨⟨by show 0 <= w.c.p.lo * XL w.c g; omega, by show w.c.p.lo * XL w.c g <= _; omega⟩, by have : (gapP w.c w.sp g).lo = w.c.p.lo * XL w.c g := rfl; omega, ?_⟩
 show (bif w.sp g then 200000000 else w.c.p.hi * XL w.c g) <= _
 cases w.sp g
 ·show w.c.p.hi * XL w.c g <= _; omega
 ·show (200000000 : Int) <= _; omega
theorem tZ {w : Dk} (h : ChOk w.c) : ∀ g, g < w.c.ms.length - 1 -> (SZ w g).lo <= (SZ w g).hi := λ g hg => by
 rw [dH h (by omega)]; exact (h.gap w.sp (by omega)).2.2
theorem M8 {c : Cht} (h : ChOk c) (j : Int) : dC 100000000 (notM c j) /\ (notM c j).lo <= (notM c j).hi := by
 unfold notM
 cases hj : hasN c.ns j with
 | false => show dC 100000000 farS /\ farS.lo <= farS.hi; exact ⟨⟨by decide, by decide⟩, by decide⟩
 | true =>
  obtain ⟨hm, _⟩ := iR hj
  have := (h.nt _ hm).t
  refine ⟨?_, this.2.1⟩
  show dC _ (ntOf c.ns j).t
  unfold dC; omega
theorem vU {c : Cht} {i : Nat} (hi : i < c.ms.length) : gD (Gt c) i = notM c i := IK _ _ _ hi
theorem Tr.ext2 {l l' s s' : Nat -> Span} {n : Nat} {t : Nat -> Int} (h : Tr l s n t) (h1 : ∀ i, i <= n -> l i = l' i) (h2 : ∀ g, g < n -> s g = s' g) : Tr l' s' n t := ⟨λ i hi => by rw [<- h1 i hi]; exact h.at_ i hi, λ g hg => by rw [<- h2 g hg]; exact h.gap g hg⟩
def TrC (c : Cht) (sp : Nat -> Bool) (t : Nat -> Int) : Prop := Tr (λ i => notM c i) (gapP c sp) (c.ms.length - 1) t
theorem N9 {w : Dk} (h : ChOk w.c) {t : Nat -> Int} : Tr (gD (Gt w.c)) (SZ w) (w.c.ms.length - 1) t ↔ TrC w.c w.sp t := by
 have := h.m
 exact ⟨λ q => q.ext2 (λ i hi => vU (by omega)) (λ g hg => dH h (by omega)), λ q => q.ext2 (λ i hi => (vU (by omega)).symm) (λ g hg => (dH h (by omega)).symm)⟩
theorem AGS {c : Cht} (h : ChOk c) : ∀ i, i < (Gt c).length -> dC 1000000000 (gD (Gt c) i) := λ i hi => by
 rw [OY] at hi
 rw [vU hi]
 have := (M8 h i).1
 unfold dC at *; omega
theorem AVG {w : Dk} (h : ChOk w.c) : (IA w).2 = true ↔ Hf w.c = true /\ ∃ t, TrC w.c w.sp t := by
 have hm := h.m
 have hk := AND (w := w) (l := Gt w.c) (by rw [OY]; omega) (by rw [OY]; omega) (AGS h) (by rw [OY]; exact tR h) (by rw [OY]; exact tZ h)
 rw [OY] at hk
 unfold IA
 cases hs : Hf w.c with
 | false => exact ⟨λ h => (by cases h), λ h => (by cases h.1)⟩
 | true =>
  show (YW w (Gt w.c)).all Fa = true ↔ _
  rw [hk]
  exact ⟨λ ⟨t, ht⟩ => ⟨rfl, t, (N9 h).1 ht⟩, λ ⟨_, t, ht⟩ => ⟨t, (N9 h).2 ht⟩⟩
theorem BCF {w : Dk} (h : ChOk w.c) (hk : (IA w).2 = true) {i : Nat} (hi : i < w.c.ms.length) {x : Int} : (gD (IA w).1 i).has x ↔ ∃ t, TrC w.c w.sp t /\ t i = x := by
 have hm := h.m
 obtain ⟨hs, t, ht⟩ := (AVG h).1 hk
 have e : (IA w).1 = YW w (Gt w.c) := by unfold IA; rw [hs]; rfl
 have b1 := tR h
 have b2 := tZ h
 rw [e, tK (by rw [OY]; omega) (by rw [OY]; omega) (AGS h) (by rw [OY]; exact b1) (by rw [OY]; exact hi), OY]
 rw [AHN b2 ((Z0 b2).2 ⟨t, (N9 h).2 ht⟩) (by omega)]
 exact ⟨λ ⟨t, a, b⟩ => ⟨t, (N9 h).1 a, b⟩, λ ⟨t, a, b⟩ => ⟨t, (N9 h).2 a, b⟩⟩
theorem AVZ {w : Dk} (hk : (IA w).2 = true) {i : Nat} (hi : i < w.c.ms.length) : (gD (IA w).1 i).lo <= (gD (IA w).1 i).hi := by
 unfold IA at hk ⊢
 cases hs : Hf w.c with
 | false => rw [hs] at hk; cases hk
 | true =>
  rw [hs] at hk
  have hk : (YW w (Gt w.c)).all Fa = true := hk
  exact tN.1 hk i (by rw [uF, OY]; exact hi)
end Go.Bal

namespace Go.Bal
open Go Go.Sym Go.Proofs
theorem cI (l : List Span) (k a b : Int) : (kW l k a b).length = l.length := rng_length _ _
theorem AVX {l : List Span} {g : Nat} {a b : Int} {i : Nat} (hi : i < l.length) (hg : g + 1 < l.length) : gD (kW l ((g : Int) + 1) a b) i = ⟨bif decide (i = g + 1) then DP (gD l i).lo b else (gD l i).lo, bif decide (i = g) then KS (gD l i).hi a else (gD l i).hi⟩ := by
 unfold kW
 rw [IK _ _ _ hi]
 unfold parM
 have e1 : ((g : Int) + 1).toNat = g + 1 := by omega
 have e2 : ((g : Int) + 1 - 1).toNat = g := by omega
 rw [e1, e2, decide_eq_true (show (g : Int) + 1 < l.length by omega), decide_eq_true (show (g : Int) + 1 > 0 by omega), Bool.and_true, Bool.true_and]
theorem ARN {a : CZ} (h : ChOk a.c) (hr : DK a = 0) {i : Nat} (hi : i < a.c.ms.length) {x : Int} : (gD (RS a) i).has x ↔ ∃ t, TrC a.c (GX a).sp t /\ t i = x :=
 BCF (w := GX a) h (SR hr).2.2 hi
theorem BQD {a : CZ} (hr : DK a = 0) {i : Nat} (hi : i < a.c.ms.length) : (gD (RS a) i).lo <= (gD (RS a) i).hi := AVZ (w := GX a) (SR hr).2.2 hi
theorem TrC.note {c : Cht} {sp : Nat -> Bool} {t : Nat -> Int} (h : TrC c sp t) {i : Nat} (hi : i < c.ms.length) : (notM c i).has (t i) := h.at_ i (by omega)
theorem ARP {a : CZ} (h : ChOk a.c) (hr : DK a = 0) {i : Nat} (hi : i < a.c.ms.length) : dC 100000000 (gD (RS a) i) := by
 have hle := BQD hr hi
 obtain ⟨t1, a1, b1⟩ := (ARN h hr hi).1 ⟨Int.le_refl _, hle⟩
 obtain ⟨t2, a2, b2⟩ := (ARN h hr hi).1 ⟨hle, Int.le_refl _⟩
 have c1 := a1.note hi
 have c2 := a2.note hi
 have d := (M8 h i).1
 rw [b1] at c1; rw [b2] at c2
 unfold Span.has dC at *; omega
end Go.Bal
