/- Package chart, with the reference: Holds. -/
import Derived.Test.YtdbjalgfomknhaaGreatChZb
set_option linter.unusedVariables false
set_option linter.unusedSimpArgs false

namespace Go.Bal
open Go Go.Sym Go.Proofs
structure ZL where
 a : CZ
 l : List Span
def Xr (x : ZL) : List Span × Bool := bif (Fg (KB x.a) x.l).all He then (Fg (KB x.a) x.l, true) else ([], false)
def E7 (x : ZL) (g : Nat) : Int := x.a.c.p.lo * RJ x.a.c g
def Dn (x : ZL) (g : Nat) (a b : Span) : Span := ⟨MY a.lo (wr (b.lo - Pe x.a g)), XC a.hi (wr (b.hi - E7 x g))⟩
def cI (x : ZL) (g : Nat) (a b : Span) : Span := ⟨MY b.lo (wr ((Dn x g a b).lo + E7 x g)), XC b.hi (wr ((Dn x g a b).hi + Pe x.a g))⟩
structure SetI (x : ZL) (f : Nat -> Span) : Prop where
 sub : ∀ i, i < x.l.length -> (gD x.l i).lo <= (f i).lo /\ (f i).hi <= (gD x.l i).hi
 tr : ∀ t, Tr (gD x.l) (TM (KB x.a)) (x.l.length - 1) t -> ∀ i, i < x.l.length -> (f i).has (t i)
def neF (f : Nat -> Span) (k : Nat) : Prop := ∀ i, i < k -> (f i).lo <= (f i).hi
def fixF (x : ZL) (f : Nat -> Span) (k : Nat) : Prop := ∀ g, g < k -> Dn x g (f g) (f (g + 1)) = f g /\ cI x g (f g) (f (g + 1)) = f (g + 1)
def dG (f : Nat -> Span) : Nat -> Nat
 | 0 => 0
 | k + 1 => dG f k + ((f k).hi - (f k).lo).toNat
structure PreS (x : ZL) : Prop where
 c0 : AI x.a.c = 0
 z0 : V6 x.a = true
 zl : x.a.z.length < 4611686018427387904
 len : x.l.length = x.a.c.ms.length
 bd : ∀ i, i < x.l.length -> I6 1000000000 (gD x.l i)
 in8 : ∀ i, i < x.l.length -> -100000000 <= (gD x.l i).lo /\ (gD x.l i).hi <= 100000000
theorem PreS.gap {x : ZL} (h : PreS x) {g : Nat} (hg : g + 1 < x.l.length) : (TM (KB x.a) g).lo = E7 x g /\ (1 <= E7 x g /\ E7 x g <= 6000000) /\ E7 x g <= (TM (KB x.a) g).hi /\ (Pe x.a g = (TM (KB x.a) g).hi /\ (TM (KB x.a) g).hi <= 6000000 ∨ Pe x.a g = 300000000 /\ (TM (KB x.a) g).hi = 200000000) := by
 have hc := MA.1 h.c0
 have hg' : g + 1 < x.a.c.ms.length := by have := h.len; omega
 obtain ⟨q1, q2, q3⟩ := hc.gap (KB x.a).sp hg'
 rw [yJ (w := KB x.a) hc hg']
 have es : (KB x.a).sp g = stnd x.a.z (g : Int) := by
  rw [Bool.eq_iff_iff, ALY hc.m h.z0, AHJ]
 refine ⟨rfl, q1, q3, ?_⟩
 show Pe x.a g = (bif (KB x.a).sp g then 200000000 else x.a.c.p.hi * RJ x.a.c g) /\ (bif (KB x.a).sp g then 200000000 else x.a.c.p.hi * RJ x.a.c g) <= 6000000 ∨ _ /\ (bif (KB x.a).sp g then 200000000 else x.a.c.p.hi * RJ x.a.c g) = 200000000
 rw [es]; unfold Pe
 rw [show ((g : Nat) : Int).toNat = g from rfl]
 cases stnd x.a.z (g : Int) with
 | true => exact .inr ⟨rfl, rfl⟩
 | false => exact .inl ⟨rfl, q2.2⟩
theorem PreS.len1 {x : ZL} (h : PreS x) : 1 <= x.l.length /\ x.l.length <= 40 := by
 rw [h.len]; exact (MA.1 h.c0).m
theorem SetI.in8 {x : ZL} (h : PreS x) {f : Nat -> Span} (hf : SetI x f) {i : Nat} (hi : i < x.l.length) : -100000000 <= (f i).lo /\ (f i).hi <= 100000000 := by
 have := hf.sub i hi; have := h.in8 i hi; omega
theorem AVE {x : ZL} (h : PreS x) {f : Nat -> Span} (hf : SetI x f) {g : Nat} (hg : g + 1 < x.l.length) (n1 : (f g).lo <= (f g).hi) (n2 : (f (g + 1)).lo <= (f (g + 1)).hi) :
  Dn x g (f g) (f (g + 1)) = ⟨MY (f g).lo ((f (g + 1)).lo - Pe x.a g), XC (f g).hi ((f (g + 1)).hi - E7 x g)⟩ /\ cI x g (f g) (f (g + 1)) = ⟨MY (f (g + 1)).lo ((Dn x g (f g) (f (g + 1))).lo + E7 x g), XC (f (g + 1)).hi ((Dn x g (f g) (f (g + 1))).hi + Pe x.a g)⟩ /\ ((f g).lo <= (Dn x g (f g) (f (g + 1))).lo /\ (Dn x g (f g) (f (g + 1))).hi <= (f g).hi) /\ (f (g + 1)).lo <= (cI x g (f g) (f (g + 1))).lo /\ (cI x g (f g) (f (g + 1))).hi <= (f (g + 1)).hi := by
 have a1 := hf.in8 h (i := g) (by omega)
 have a2 := hf.in8 h hg
 obtain ⟨_, g1, g2, g3⟩ := h.gap hg
 have e1 : Dn x g (f g) (f (g + 1)) = ⟨MY (f g).lo ((f (g + 1)).lo - Pe x.a g), XC (f g).hi ((f (g + 1)).hi - E7 x g)⟩ := by
  unfold Dn wr; rw [TC (by omega) (by omega), TC (by omega) (by omega)]
 have b1 : -500000000 <= (Dn x g (f g) (f (g + 1))).lo /\ (Dn x g (f g) (f (g + 1))).lo <= 500000000 /\ (f g).lo <= (Dn x g (f g) (f (g + 1))).lo := by
  rw [e1]; show -500000000 <= MY _ _ /\ MY _ _ <= _ /\ _ <= MY _ _
  unfold MY; split <;> omega
 have b2 : -500000000 <= (Dn x g (f g) (f (g + 1))).hi /\ (Dn x g (f g) (f (g + 1))).hi <= 500000000 /\ (Dn x g (f g) (f (g + 1))).hi <= (f g).hi := by
  rw [e1]; show -500000000 <= XC _ _ /\ XC _ _ <= _ /\ XC _ _ <= _
  unfold XC; split <;> omega
 have e2 : cI x g (f g) (f (g + 1)) = ⟨MY (f (g + 1)).lo ((Dn x g (f g) (f (g + 1))).lo + E7 x g), XC (f (g + 1)).hi ((Dn x g (f g) (f (g + 1))).hi + Pe x.a g)⟩ := by
  unfold cI wr; rw [TC (by omega) (by omega), TC (by omega) (by omega)]
 refine ⟨e1, e2, ⟨b1.2.2, b2.2.2⟩, ?_⟩
 rw [e2]; show _ <= MY _ _ /\ XC _ _ <= _
 unfold MY XC; constructor <;> split <;> omega
theorem BGE {x : ZL} (h : PreS x) {f : Nat -> Span} (hf : SetI x f) {g : Nat} (hg : g + 1 < x.l.length) (n1 : (f g).lo <= (f g).hi) (n2 : (f (g + 1)).lo <= (f (g + 1)).hi) {t : Nat -> Int} (ht : Tr (gD x.l) (TM (KB x.a)) (x.l.length - 1) t) : (Dn x g (f g) (f (g + 1))).has (t g) /\ (cI x g (f g) (f (g + 1))).has (t (g + 1)) := by
 obtain ⟨e1, e2, _⟩ := AVE h hf hg n1 n2
 obtain ⟨g0, g1, g2, g3⟩ := h.gap hg
 have t1 := hf.tr t ht g (by omega)
 have t2 := hf.tr t ht (g + 1) hg
 have t3 := ht.gap g (by omega)
 have t3 : E7 x g <= t (g + 1) - t g /\ t (g + 1) - t g <= (TM (KB x.a) g).hi := by rw [<- g0]; exact t3
 have a1 : (Dn x g (f g) (f (g + 1))).has (t g) := by
  rw [e1]; unfold Span.has at *; rw [pN, nI]; omega
 refine ⟨a1, ?_⟩
 rw [e2]; unfold Span.has at *; rw [pN, nI]; omega
def upF (f : Nat -> Span) (g : Nat) (a b : Span) (i : Nat) : Span := if i = g + 1 then b else if i = g then a else f i
theorem ATH (f : Nat -> Span) (g : Nat) (a b : Span) : upF f g a b g = a := by unfold upF; rw [if_neg (by omega), if_pos rfl]
theorem ATI (f : Nat -> Span) (g : Nat) (a b : Span) : upF f g a b (g + 1) = b := by unfold upF; rw [if_pos rfl]
theorem BCV (f : Nat -> Span) (g : Nat) (a b : Span) {i : Nat} (h1 : i ≠ g) (h2 : i ≠ g + 1) : upF f g a b i = f i := by unfold upF; rw [if_neg h2, if_neg h1]
theorem AYE {f f' : Nat -> Span} : ∀ {n : Nat}, (∀ i, i < n -> (f i).lo <= (f' i).lo /\ (f' i).hi <= (f i).hi) -> dG f' n <= dG f n
 | 0, _ => Nat.le_refl _
 | n + 1, h => by
  have := AYE (f := f) (f' := f') (n := n) λ i hi => h i (by omega)
  have := h n (by omega)
  show dG f' n + _ <= dG f n + _
  omega
theorem ALS {f f' : Nat -> Span} : ∀ {n : Nat} {j : Nat}, j < n -> (∀ i, i < n -> (f i).lo <= (f' i).lo /\ (f' i).hi <= (f i).hi) -> f' j ≠ f j -> (f' j).lo <= (f' j).hi -> dG f' n < dG f n
 | 0, j, hj, _, _, _ => absurd hj (Nat.not_lt_zero _)
 | n + 1, j, hj, h, hd, hne => by
  have hn := h n (by omega)
  show dG f' n + _ < dG f n + _
  by_cases e : j = n
  ·subst e
   have := AYE (f := f) (f' := f') (n := j) λ i hi => h i (by omega)
   have : (f' j).lo ≠ (f j).lo ∨ (f' j).hi ≠ (f j).hi := by
    by_cases q : (f' j).lo = (f j).lo
    ·by_cases q2 : (f' j).hi = (f j).hi
     ·exfalso; apply hd
      generalize f' j = s at *; generalize f j = r at *
      obtain ⟨s1, s2⟩ := s; obtain ⟨r1, r2⟩ := r
      simp only at q q2; subst q; subst q2; rfl
     ·exact .inr q2
    ·exact .inl q
   omega
  ·have := ALS (n := n) (j := j) (by omega) (λ i hi => h i (by omega)) hd hne
   omega
theorem BXG {x : ZL} (h : PreS x) {f : Nat -> Span} (hf : SetI x f) (hn : neF f x.l.length) {g : Nat} (hg : g + 1 < x.l.length) (hA : (Dn x g (f g) (f (g + 1))).lo <= (Dn x g (f g) (f (g + 1))).hi) (hB : (cI x g (f g) (f (g + 1))).lo <= (cI x g (f g) (f (g + 1))).hi) (hd : Dn x g (f g) (f (g + 1)) ≠ f g ∨ cI x g (f g) (f (g + 1)) ≠ f (g + 1)) :
  SetI x (upF f g (Dn x g (f g) (f (g + 1))) (cI x g (f g) (f (g + 1)))) /\ neF (upF f g (Dn x g (f g) (f (g + 1))) (cI x g (f g) (f (g + 1)))) x.l.length /\ dG (upF f g (Dn x g (f g) (f (g + 1))) (cI x g (f g) (f (g + 1)))) x.l.length < dG f x.l.length := by
 have n1 := hn g (by omega)
 have n2 := hn (g + 1) hg
 obtain ⟨_, _, s1, s2⟩ := AVE h hf hg n1 n2
 have ht := λ t ht => BGE h hf hg n1 n2 (t := t) ht
 generalize Dn x g (f g) (f (g + 1)) = A at *
 generalize cI x g (f g) (f (g + 1)) = B at *
 have sub : ∀ i, i < x.l.length -> (f i).lo <= (upF f g A B i).lo /\ (upF f g A B i).hi <= (f i).hi := λ i hi => by
  by_cases e1 : i = g
  ·subst e1; rw [ATH]; exact s1
  ·by_cases e2 : i = g + 1
   ·subst e2; rw [ATI]; exact s2
   ·rw [BCV _ _ _ _ e1 e2]; exact ⟨Int.le_refl _, Int.le_refl _⟩
 refine ⟨⟨λ i hi => ?_, λ t tt i hi => ?_⟩, λ i hi => ?_, ?_⟩
 ·have := sub i hi; have := hf.sub i hi; omega
 ·by_cases e1 : i = g
  ·subst e1; rw [ATH]; exact (ht t tt).1
  ·by_cases e2 : i = g + 1
   ·subst e2; rw [ATI]; exact (ht t tt).2
   ·rw [BCV _ _ _ _ e1 e2]; exact hf.tr t tt i hi
 ·by_cases e1 : i = g
  ·subst e1; rw [ATH]; exact hA
  ·by_cases e2 : i = g + 1
   ·subst e2; rw [ATI]; exact hB
   ·rw [BCV _ _ _ _ e1 e2]; exact hn i hi
 ·rcases hd with hd | hd
  ·exact ALS (j := g) (by omega) sub (by rw [ATH]; exact hd) (by rw [ATH]; exact hA)
  ·exact ALS (j := g + 1) hg sub (by rw [ATI]; exact hd) (by rw [ATI]; exact hB)
theorem PreS.ok {x : ZL} (h : PreS x) : (Fg (KB x.a) x.l).all He = true ↔ ∃ t, Tr (gD x.l) (TM (KB x.a)) (x.l.length - 1) t := by
 have hc := MA.1 h.c0
 have hl := h.len1
 have g1 := AML (w := KB x.a) hc
 have g2 := ALF (w := KB x.a) hc
 rw [Rp, <- h.len] at g1 g2
 exact BJR hl.1 hl.2 h.bd g1 g2
theorem BJB {x : ZL} (h : PreS x) (hn : ∀ t, ¬ Tr (gD x.l) (TM (KB x.a)) (x.l.length - 1) t) : Xr x = ([], false) := by
 unfold Xr
 cases hq : (Fg (KB x.a) x.l).all He with
 | false => rfl
 | true => obtain ⟨t, ht⟩ := h.ok.1 hq; exact absurd ht (hn t)
theorem BMF {x : ZL} (h : PreS x) {f : Nat -> Span} (hf : SetI x f) (hn : neF f x.l.length) (hx : fixF x f (x.l.length - 1)) : (Xr x).2 = true /\ (Xr x).1.length = x.l.length /\ ∀ i, i < x.l.length -> gD (Xr x).1 i = f i := by
 have hc := MA.1 h.c0
 have hl := h.len1
 have g1 := AML (w := KB x.a) hc
 have g2 := ALF (w := KB x.a) hc
 rw [Rp, <- h.len] at g1 g2
 have fx : ∀ g, g < x.l.length - 1 -> (f (g + 1)).lo - (TM (KB x.a) g).hi <= (f g).lo /\ (f g).hi <= (f (g + 1)).hi - (TM (KB x.a) g).lo /\ (f g).lo + (TM (KB x.a) g).lo <= (f (g + 1)).lo /\ (f (g + 1)).hi <= (f g).hi + (TM (KB x.a) g).hi := λ g hg => by
  have n1 := hn g (by omega)
  have n2 := hn (g + 1) (by omega)
  obtain ⟨e1, e2, _⟩ := AVE h hf (g := g) (by omega) n1 n2
  obtain ⟨q1, q2⟩ := hx g hg
  obtain ⟨g0, g3, g4, g5⟩ := h.gap (g := g) (by omega)
  have a1 := hf.in8 h (i := g) (by omega)
  have a2 := hf.in8 h (i := g + 1) (by omega)
  rw [q1] at e1 e2; rw [q2] at e2
  have p1 : (f g).lo = MY (f g).lo ((f (g + 1)).lo - Pe x.a g) := congrArg Span.lo e1
  have p2 : (f g).hi = XC (f g).hi ((f (g + 1)).hi - E7 x g) := congrArg Span.hi e1
  have p3 : (f (g + 1)).lo = MY (f (g + 1)).lo ((f g).lo + E7 x g) := congrArg Span.lo e2
  have p4 : (f (g + 1)).hi = XC (f (g + 1)).hi ((f g).hi + Pe x.a g) := congrArg Span.hi e2
  have r1 := (pN.1 (Int.le_of_eq p1.symm)).2
  have r2 := (nI.1 (Int.le_of_eq p2)).2
  have r3 := (pN.1 (Int.le_of_eq p3.symm)).2
  have r4 := (nI.1 (Int.le_of_eq p4)).2
  omega
 have arc := BMA (N := f) (s := TM (KB x.a)) (n := x.l.length - 1) g2 (λ i hi => hn i (by omega)) (λ g hg => (fx g hg).1) (λ g hg => (fx g hg).2.1) (λ g hg => (fx g hg).2.2.1) (λ g hg => (fx g hg).2.2.2)
 have un := AWW (l := gD x.l) g2 arc (λ i hi y hy => by
  have := hf.sub i (by omega)
  unfold Span.has at *; omega) (λ t ht i hi => hf.tr t ht i (by omega))
 have hq : (Fg (KB x.a) x.l).all He = true := by
  rw [AAC, ACU]
  intro i hi
  rw [AAF hl.1 hl.2 h.bd g1 hi, <- un i (by omega)]
  exact hn i hi
 have ev : Xr x = (Fg (KB x.a) x.l, true) := by unfold Xr; rw [hq]; rfl
 rw [ev]
 exact ⟨rfl, ACU _ _, λ i hi => by rw [AAF hl.1 hl.2 h.bd g1 hi, <- un i (by omega)]⟩
end Go.Bal
