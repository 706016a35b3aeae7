/- Package chart, with the reference: Holds. -/
import Derived.Test.YtdbjalgfomknhaaGreatChZb
set_option linter.unusedVariables false
set_option linter.unusedSimpArgs false

namespace Go.Bal
open Go Go.Sym Go.Proofs
structure ZL where
 a : CZ
 l : List Span
def Wl (x : ZL) : List Span × Bool := bif (YW (GX x.a) x.l).all Fa then (YW (GX x.a) x.l, true) else ([], false)
def xV (x : ZL) (g : Nat) : Int := x.a.c.p.lo * XL x.a.c g
def Dt (x : ZL) (g : Nat) (a b : Span) : Span := ⟨DP a.lo (wr (b.lo - Hb x.a g)), KS a.hi (wr (b.hi - xV x g))⟩
def bC (x : ZL) (g : Nat) (a b : Span) : Span := ⟨DP b.lo (wr ((Dt x g a b).lo + xV x g)), KS b.hi (wr ((Dt x g a b).hi + Hb x.a g))⟩
structure SetI (x : ZL) (f : Nat -> Span) : Prop where
 sub : ∀ i, i < x.l.length -> (gD x.l i).lo <= (f i).lo /\ (f i).hi <= (gD x.l i).hi
 tr : ∀ t, Tr (gD x.l) (SZ (GX x.a)) (x.l.length - 1) t -> ∀ i, i < x.l.length -> (f i).has (t i)
def neF (f : Nat -> Span) (k : Nat) : Prop := ∀ i, i < k -> (f i).lo <= (f i).hi
def fixF (x : ZL) (f : Nat -> Span) (k : Nat) : Prop := ∀ g, g < k -> Dt x g (f g) (f (g + 1)) = f g /\ bC x g (f g) (f (g + 1)) = f (g + 1)
def gG (f : Nat -> Span) : Nat -> Nat
 | 0 => 0
 | k + 1 => gG f k + ((f k).hi - (f k).lo).toNat
structure PreS (x : ZL) : Prop where
 c0 : AU x.a.c = 0
 z0 : okZ x.a = true
 zl : x.a.z.length < 4611686018427387904
 len : x.l.length = x.a.c.ms.length
 bd : ∀ i, i < x.l.length -> dC 1000000000 (gD x.l i)
 in8 : ∀ i, i < x.l.length -> -100000000 <= (gD x.l i).lo /\ (gD x.l i).hi <= 100000000
theorem PreS.gap {x : ZL} (h : PreS x) {g : Nat} (hg : g + 1 < x.l.length) : (SZ (GX x.a) g).lo = xV x g /\ (1 <= xV x g /\ xV x g <= 6000000) /\ xV x g <= (SZ (GX x.a) g).hi /\ (Hb x.a g = (SZ (GX x.a) g).hi /\ (SZ (GX x.a) g).hi <= 6000000 ∨ Hb x.a g = 300000000 /\ (SZ (GX x.a) g).hi = 200000000) := by
 have hc := PX.1 h.c0
 have hg' : g + 1 < x.a.c.ms.length := by have := h.len; omega
 obtain ⟨q1, q2, q3⟩ := hc.gap (GX x.a).sp hg'
 rw [dH (w := GX x.a) hc hg']
 have es : (GX x.a).sp g = stnd x.a.z (g : Int) := by
  rw [Bool.eq_iff_iff, BDB hc.m h.z0, R6]
 refine ⟨rfl, q1, q3, ?_⟩
 show Hb x.a g = (bif (GX x.a).sp g then 200000000 else x.a.c.p.hi * XL x.a.c g) /\ (bif (GX x.a).sp g then 200000000 else x.a.c.p.hi * XL x.a.c g) <= 6000000 ∨ _ /\ (bif (GX x.a).sp g then 200000000 else x.a.c.p.hi * XL x.a.c g) = 200000000
 rw [es]; unfold Hb
 rw [show ((g : Nat) : Int).toNat = g from rfl]
 cases stnd x.a.z (g : Int) with
 | true => exact .inr ⟨rfl, rfl⟩
 | false => exact .inl ⟨rfl, q2.2⟩
theorem PreS.len1 {x : ZL} (h : PreS x) : 1 <= x.l.length /\ x.l.length <= 40 := by
 rw [h.len]; exact (PX.1 h.c0).m
theorem SetI.in8 {x : ZL} (h : PreS x) {f : Nat -> Span} (hf : SetI x f) {i : Nat} (hi : i < x.l.length) : -100000000 <= (f i).lo /\ (f i).hi <= 100000000 := by
 have := hf.sub i hi; have := h.in8 i hi; omega
theorem ANN {x : ZL} (h : PreS x) {f : Nat -> Span} (hf : SetI x f) {g : Nat} (hg : g + 1 < x.l.length) (n1 : (f g).lo <= (f g).hi) (n2 : (f (g + 1)).lo <= (f (g + 1)).hi) :
  Dt x g (f g) (f (g + 1)) = ⟨DP (f g).lo ((f (g + 1)).lo - Hb x.a g), KS (f g).hi ((f (g + 1)).hi - xV x g)⟩ /\ bC x g (f g) (f (g + 1)) = ⟨DP (f (g + 1)).lo ((Dt x g (f g) (f (g + 1))).lo + xV x g), KS (f (g + 1)).hi ((Dt x g (f g) (f (g + 1))).hi + Hb x.a g)⟩ /\ ((f g).lo <= (Dt x g (f g) (f (g + 1))).lo /\ (Dt x g (f g) (f (g + 1))).hi <= (f g).hi) /\ (f (g + 1)).lo <= (bC x g (f g) (f (g + 1))).lo /\ (bC x g (f g) (f (g + 1))).hi <= (f (g + 1)).hi := by
 have a1 := hf.in8 h (i := g) (by omega)
 have a2 := hf.in8 h hg
 obtain ⟨_, g1, g2, g3⟩ := h.gap hg
 have e1 : Dt x g (f g) (f (g + 1)) = ⟨DP (f g).lo ((f (g + 1)).lo - Hb x.a g), KS (f g).hi ((f (g + 1)).hi - xV x g)⟩ := by
  unfold Dt wr; rw [Dh (by omega) (by omega), Dh (by omega) (by omega)]
 have b1 : -500000000 <= (Dt x g (f g) (f (g + 1))).lo /\ (Dt x g (f g) (f (g + 1))).lo <= 500000000 /\ (f g).lo <= (Dt x g (f g) (f (g + 1))).lo := by
  rw [e1]; show -500000000 <= DP _ _ /\ DP _ _ <= _ /\ _ <= DP _ _
  unfold DP; split <;> omega
 have b2 : -500000000 <= (Dt x g (f g) (f (g + 1))).hi /\ (Dt x g (f g) (f (g + 1))).hi <= 500000000 /\ (Dt x g (f g) (f (g + 1))).hi <= (f g).hi := by
  rw [e1]; show -500000000 <= KS _ _ /\ KS _ _ <= _ /\ KS _ _ <= _
  unfold KS; split <;> omega
 have e2 : bC x g (f g) (f (g + 1)) = ⟨DP (f (g + 1)).lo ((Dt x g (f g) (f (g + 1))).lo + xV x g), KS (f (g + 1)).hi ((Dt x g (f g) (f (g + 1))).hi + Hb x.a g)⟩ := by
  unfold bC wr; rw [Dh (by omega) (by omega), Dh (by omega) (by omega)]
 refine ⟨e1, e2, ⟨b1.2.2, b2.2.2⟩, ?_⟩
 rw [e2]; show _ <= DP _ _ /\ KS _ _ <= _
 unfold DP KS; constructor <;> split <;> omega
theorem AUY {x : ZL} (h : PreS x) {f : Nat -> Span} (hf : SetI x f) {g : Nat} (hg : g + 1 < x.l.length) (n1 : (f g).lo <= (f g).hi) (n2 : (f (g + 1)).lo <= (f (g + 1)).hi) {t : Nat -> Int} (ht : Tr (gD x.l) (SZ (GX x.a)) (x.l.length - 1) t) : (Dt x g (f g) (f (g + 1))).has (t g) /\ (bC x g (f g) (f (g + 1))).has (t (g + 1)) := by
 obtain ⟨e1, e2, _⟩ := ANN h hf hg n1 n2
 obtain ⟨g0, g1, g2, g3⟩ := h.gap hg
 have t1 := hf.tr t ht g (by omega)
 have t2 := hf.tr t ht (g + 1) hg
 have t3 := ht.gap g (by omega)
 have t3 : xV x g <= t (g + 1) - t g /\ t (g + 1) - t g <= (SZ (GX x.a) g).hi := by rw [<- g0]; exact t3
 have a1 : (Dt x g (f g) (f (g + 1))).has (t g) := by
  rw [e1]; unfold Span.has at *; rw [maxI_le, le_minI]; omega
 refine ⟨a1, ?_⟩
 rw [e2]; unfold Span.has at *; rw [maxI_le, le_minI]; omega
def upF (f : Nat -> Span) (g : Nat) (a b : Span) (i : Nat) : Span := if i = g + 1 then b else if i = g then a else f i
theorem AJP (f : Nat -> Span) (g : Nat) (a b : Span) : upF f g a b g = a := by unfold upF; rw [if_neg (by omega), if_pos rfl]
theorem AJH (f : Nat -> Span) (g : Nat) (a b : Span) : upF f g a b (g + 1) = b := by unfold upF; rw [if_pos rfl]
theorem AWJ (f : Nat -> Span) (g : Nat) (a b : Span) {i : Nat} (h1 : i ≠ g) (h2 : i ≠ g + 1) : upF f g a b i = f i := by unfold upF; rw [if_neg h2, if_neg h1]
theorem APM {f f' : Nat -> Span} : ∀ {n : Nat}, (∀ i, i < n -> (f i).lo <= (f' i).lo /\ (f' i).hi <= (f i).hi) -> gG f' n <= gG f n
 | 0, _ => Nat.le_refl _
 | n + 1, h => by
  have := APM (f := f) (f' := f') (n := n) λ i hi => h i (by omega)
  have := h n (by omega)
  show gG f' n + _ <= gG f n + _
  omega
theorem AGX {f f' : Nat -> Span} : ∀ {n : Nat} {j : Nat}, j < n -> (∀ i, i < n -> (f i).lo <= (f' i).lo /\ (f' i).hi <= (f i).hi) -> f' j ≠ f j -> (f' j).lo <= (f' j).hi -> gG f' n < gG f n
 | 0, j, hj, _, _, _ => absurd hj (Nat.not_lt_zero _)
 | n + 1, j, hj, h, hd, hne => by
  have hn := h n (by omega)
  show gG f' n + _ < gG f n + _
  by_cases e : j = n
  ·subst e
   have := APM (f := f) (f' := f') (n := j) λ i hi => h i (by omega)
   have : (f' j).lo ≠ (f j).lo ∨ (f' j).hi ≠ (f j).hi := by
    by_cases q : (f' j).lo = (f j).lo
    ·by_cases q2 : (f' j).hi = (f j).hi
     ·exfalso; apply hd
      generalize f' j = s at *; generalize f j = r at *
      obtain ⟨s1, s2⟩ := s; obtain ⟨r1, r2⟩ := r
      simp only at q q2; subst q; subst q2; rfl
     ·exact .inr q2
    ·exact .inl q
   omega
  ·have := AGX (n := n) (j := j) (by omega) (λ i hi => h i (by omega)) hd hne
   omega
theorem BLL {x : ZL} (h : PreS x) {f : Nat -> Span} (hf : SetI x f) (hn : neF f x.l.length) {g : Nat} (hg : g + 1 < x.l.length) (hA : (Dt x g (f g) (f (g + 1))).lo <= (Dt x g (f g) (f (g + 1))).hi) (hB : (bC x g (f g) (f (g + 1))).lo <= (bC x g (f g) (f (g + 1))).hi) (hd : Dt x g (f g) (f (g + 1)) ≠ f g ∨ bC x g (f g) (f (g + 1)) ≠ f (g + 1)) :
  SetI x (upF f g (Dt x g (f g) (f (g + 1))) (bC x g (f g) (f (g + 1)))) /\ neF (upF f g (Dt x g (f g) (f (g + 1))) (bC x g (f g) (f (g + 1)))) x.l.length /\ gG (upF f g (Dt x g (f g) (f (g + 1))) (bC x g (f g) (f (g + 1)))) x.l.length < gG f x.l.length := by
 have n1 := hn g (by omega)
 have n2 := hn (g + 1) hg
 obtain ⟨_, _, s1, s2⟩ := ANN h hf hg n1 n2
 have ht := λ t ht => AUY h hf hg n1 n2 (t := t) ht
 generalize Dt x g (f g) (f (g + 1)) = A at *
 generalize bC x g (f g) (f (g + 1)) = B at *
 have sub : ∀ i, i < x.l.length -> (f i).lo <= (upF f g A B i).lo /\ (upF f g A B i).hi <= (f i).hi := λ i hi => by
  by_cases e1 : i = g
  ·subst e1; rw [AJP]; exact s1
  ·by_cases e2 : i = g + 1
   ·subst e2; rw [AJH]; exact s2
   ·rw [AWJ _ _ _ _ e1 e2]; exact ⟨Int.le_refl _, Int.le_refl _⟩
 refine ⟨⟨λ i hi => ?_, λ t tt i hi => ?_⟩, λ i hi => ?_, ?_⟩
 ·have := sub i hi; have := hf.sub i hi; omega
 ·by_cases e1 : i = g
  ·subst e1; rw [AJP]; exact (ht t tt).1
  ·by_cases e2 : i = g + 1
   ·subst e2; rw [AJH]; exact (ht t tt).2
   ·rw [AWJ _ _ _ _ e1 e2]; exact hf.tr t tt i hi
 ·by_cases e1 : i = g
  ·subst e1; rw [AJP]; exact hA
  ·by_cases e2 : i = g + 1
   ·subst e2; rw [AJH]; exact hB
   ·rw [AWJ _ _ _ _ e1 e2]; exact hn i hi
 ·rcases hd with hd | hd
  ·exact AGX (j := g) (by omega) sub (by rw [AJP]; exact hd) (by rw [AJP]; exact hA)
  ·exact AGX (j := g + 1) hg sub (by rw [AJH]; exact hd) (by rw [AJH]; exact hB)
theorem PreS.ok {x : ZL} (h : PreS x) : (YW (GX x.a) x.l).all Fa = true ↔ ∃ t, Tr (gD x.l) (SZ (GX x.a)) (x.l.length - 1) t := by
 have hc := PX.1 h.c0
 have hl := h.len1
 have g1 := tR (w := GX x.a) hc
 have g2 := tZ (w := GX x.a) hc
 rw [Qx, <- h.len] at g1 g2
 exact AND hl.1 hl.2 h.bd g1 g2
theorem AZV {x : ZL} (h : PreS x) (hn : ∀ t, ¬ Tr (gD x.l) (SZ (GX x.a)) (x.l.length - 1) t) : Wl x = ([], false) := by
 unfold Wl
 cases hq : (YW (GX x.a) x.l).all Fa with
 | false => rfl
 | true => obtain ⟨t, ht⟩ := h.ok.1 hq; exact absurd ht (hn t)
theorem BCS {x : ZL} (h : PreS x) {f : Nat -> Span} (hf : SetI x f) (hn : neF f x.l.length) (hx : fixF x f (x.l.length - 1)) : (Wl x).2 = true /\ (Wl x).1.length = x.l.length /\ ∀ i, i < x.l.length -> gD (Wl x).1 i = f i := by
 have hc := PX.1 h.c0
 have hl := h.len1
 have g1 := tR (w := GX x.a) hc
 have g2 := tZ (w := GX x.a) hc
 rw [Qx, <- h.len] at g1 g2
 have fx : ∀ g, g < x.l.length - 1 -> (f (g + 1)).lo - (SZ (GX x.a) g).hi <= (f g).lo /\ (f g).hi <= (f (g + 1)).hi - (SZ (GX x.a) g).lo /\ (f g).lo + (SZ (GX x.a) g).lo <= (f (g + 1)).lo /\ (f (g + 1)).hi <= (f g).hi + (SZ (GX x.a) g).hi := λ g hg => by
  have n1 := hn g (by omega)
  have n2 := hn (g + 1) (by omega)
  obtain ⟨e1, e2, _⟩ := ANN h hf (g := g) (by omega) n1 n2
  obtain ⟨q1, q2⟩ := hx g hg
  obtain ⟨g0, g3, g4, g5⟩ := h.gap (g := g) (by omega)
  have a1 := hf.in8 h (i := g) (by omega)
  have a2 := hf.in8 h (i := g + 1) (by omega)
  rw [q1] at e1 e2; rw [q2] at e2
  have p1 : (f g).lo = DP (f g).lo ((f (g + 1)).lo - Hb x.a g) := congrArg Span.lo e1
  have p2 : (f g).hi = KS (f g).hi ((f (g + 1)).hi - xV x g) := congrArg Span.hi e1
  have p3 : (f (g + 1)).lo = DP (f (g + 1)).lo ((f g).lo + xV x g) := congrArg Span.lo e2
  have p4 : (f (g + 1)).hi = KS (f (g + 1)).hi ((f g).hi + Hb x.a g) := congrArg Span.hi e2
  have r1 := (maxI_le.1 (Int.le_of_eq p1.symm)).2
  have r2 := (le_minI.1 (Int.le_of_eq p2)).2
  have r3 := (maxI_le.1 (Int.le_of_eq p3.symm)).2
  have r4 := (le_minI.1 (Int.le_of_eq p4)).2
  omega
 have arc := BDJ (N := f) (s := SZ (GX x.a)) (n := x.l.length - 1) g2 (λ i hi => hn i (by omega)) (λ g hg => (fx g hg).1) (λ g hg => (fx g hg).2.1) (λ g hg => (fx g hg).2.2.1) (λ g hg => (fx g hg).2.2.2)
 have un := AMX (l := gD x.l) g2 arc (λ i hi y hy => by
  have := hf.sub i (by omega)
  unfold Span.has at *; omega) (λ t ht i hi => hf.tr t ht i (by omega))
 have hq : (YW (GX x.a) x.l).all Fa = true := by
  rw [tN, uF]
  intro i hi
  rw [tK hl.1 hl.2 h.bd g1 hi, <- un i (by omega)]
  exact hn i hi
 have ev : Wl x = (YW (GX x.a) x.l, true) := by unfold Wl; rw [hq]; rfl
 rw [ev]
 exact ⟨rfl, uF _ _, λ i hi => by rw [tK hl.1 hl.2 h.bd g1 hi, <- un i (by omega)]⟩
end Go.Bal
