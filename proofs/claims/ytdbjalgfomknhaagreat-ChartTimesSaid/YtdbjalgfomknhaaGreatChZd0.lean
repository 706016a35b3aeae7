/- Package chart, with the reference: spans narrowed until nothing changes are what two passes leave (no program in sight). -/
import Derived.Test.YtdbjalgfomknhaaGreatChZc
set_option linter.unusedVariables false
set_option linter.unusedSimpArgs false
namespace Go.Bal
open Go Go.Sym Go.Proofs
structure ZL where
 a : CZ
 l : List Span
def Zf (x : ZL) : List Span × Bool := bif (OH (CV x.a) x.l).all Du then (OH (CV x.a) x.l, true) else ([], false)
def J5 (x : ZL) (g : Nat) : Int := x.a.c.p.lo * WC x.a.c g
def Ew (x : ZL) (g : Nat) (a b : Span) : Span := ⟨PD a.lo (wr (b.lo - Ke x.a g)), Bn a.hi (wr (b.hi - J5 x g))⟩
def eQ (x : ZL) (g : Nat) (a b : Span) : Span := ⟨PD b.lo (wr ((Ew x g a b).lo + J5 x g)), Bn b.hi (wr ((Ew x g a b).hi + Ke x.a g))⟩
structure SetI (x : ZL) (f : Nat -> Span) : Prop where
 sub : ∀ i, i < x.l.length -> (gD x.l i).lo <= (f i).lo /\ (f i).hi <= (gD x.l i).hi
 tr : ∀ t, Tr (gD x.l) (HR (CV x.a)) (x.l.length - 1) t -> ∀ i, i < x.l.length -> (f i).has (t i)
def neF (f : Nat -> Span) (k : Nat) : Prop := ∀ i, i < k -> (f i).lo <= (f i).hi
def fixF (x : ZL) (f : Nat -> Span) (k : Nat) : Prop := ∀ g, g < k -> Ew x g (f g) (f (g + 1)) = f g /\ eQ x g (f g) (f (g + 1)) = f (g + 1)
def jF (f : Nat -> Span) : Nat -> Nat
 | 0 => 0
 | k + 1 => jF f k + ((f k).hi - (f k).lo).toNat
structure PreS (x : ZL) : Prop where
 c0 : AM x.a.c = 0
 z0 : rX x.a = true
 zl : x.a.z.length < 4611686018427387904
 len : x.l.length = x.a.c.ms.length
 bd : ∀ i, i < x.l.length -> kL 1000000000 (gD x.l i)
 in8 : ∀ i, i < x.l.length -> -100000000 <= (gD x.l i).lo /\ (gD x.l i).hi <= 100000000
theorem PreS.gap {x : ZL} (h : PreS x) {g : Nat} (hg : g + 1 < x.l.length) : (HR (CV x.a) g).lo = J5 x g /\ (1 <= J5 x g /\ J5 x g <= 6000000) /\ J5 x g <= (HR (CV x.a) g).hi /\ (Ke x.a g = (HR (CV x.a) g).hi /\ (HR (CV x.a) g).hi <= 6000000 ∨ Ke x.a g = 300000000 /\ (HR (CV x.a) g).hi = 200000000) := by
 have hc := QR.1 h.c0
 have hg' : g + 1 < x.a.c.ms.length := by have := h.len; omega
 obtain ⟨q1, q2, q3⟩ := hc.gap (CV x.a).sp hg'
 rw [Qp (w := CV x.a) hc hg']
 have es : (CV x.a).sp g = K8 x.a.z (g : Int) := by
  rw [Bool.eq_iff_iff, AVF hc.m h.z0, xY]
 refine ⟨rfl, q1, q3, ?_⟩
 show Ke x.a g = (bif (CV x.a).sp g then 200000000 else x.a.c.p.hi * WC x.a.c g) /\ (bif (CV x.a).sp g then 200000000 else x.a.c.p.hi * WC x.a.c g) <= 6000000 ∨ _ /\ (bif (CV x.a).sp g then 200000000 else x.a.c.p.hi * WC x.a.c g) = 200000000
 rw [es]; unfold Ke
 rw [show ((g : Nat) : Int).toNat = g from rfl]
 cases K8 x.a.z (g : Int) with
 | true => exact .inr ⟨rfl, rfl⟩
 | false => exact .inl ⟨rfl, q2.2⟩
theorem PreS.len1 {x : ZL} (h : PreS x) : 1 <= x.l.length /\ x.l.length <= 40 := by
 rw [h.len]; exact (QR.1 h.c0).m
theorem SetI.in8 {x : ZL} (h : PreS x) {f : Nat -> Span} (hf : SetI x f) {i : Nat} (hi : i < x.l.length) : -100000000 <= (f i).lo /\ (f i).hi <= 100000000 := by
 have := hf.sub i hi; have := h.in8 i hi; omega
theorem ASA {x : ZL} (h : PreS x) {f : Nat -> Span} (hf : SetI x f) {g : Nat} (hg : g + 1 < x.l.length) (n1 : (f g).lo <= (f g).hi) (n2 : (f (g + 1)).lo <= (f (g + 1)).hi) :
  Ew x g (f g) (f (g + 1)) = ⟨PD (f g).lo ((f (g + 1)).lo - Ke x.a g), Bn (f g).hi ((f (g + 1)).hi - J5 x g)⟩ /\ eQ x g (f g) (f (g + 1)) = ⟨PD (f (g + 1)).lo ((Ew x g (f g) (f (g + 1))).lo + J5 x g), Bn (f (g + 1)).hi ((Ew x g (f g) (f (g + 1))).hi + Ke x.a g)⟩ /\ ((f g).lo <= (Ew x g (f g) (f (g + 1))).lo /\ (Ew x g (f g) (f (g + 1))).hi <= (f g).hi) /\ (f (g + 1)).lo <= (eQ x g (f g) (f (g + 1))).lo /\ (eQ x g (f g) (f (g + 1))).hi <= (f (g + 1)).hi := by
 have a1 := hf.in8 h (i := g) (by omega)
 have a2 := hf.in8 h hg
 obtain ⟨_, g1, g2, g3⟩ := h.gap hg
 have e1 : Ew x g (f g) (f (g + 1)) = ⟨PD (f g).lo ((f (g + 1)).lo - Ke x.a g), Bn (f g).hi ((f (g + 1)).hi - J5 x g)⟩ := by
  unfold Ew wr; rw [Bc (by omega) (by omega), Bc (by omega) (by omega)]
 have b1 : -500000000 <= (Ew x g (f g) (f (g + 1))).lo /\ (Ew x g (f g) (f (g + 1))).lo <= 500000000 /\ (f g).lo <= (Ew x g (f g) (f (g + 1))).lo := by
  rw [e1]; show -500000000 <= PD _ _ /\ PD _ _ <= _ /\ _ <= PD _ _
  unfold PD; split <;> omega
 have b2 : -500000000 <= (Ew x g (f g) (f (g + 1))).hi /\ (Ew x g (f g) (f (g + 1))).hi <= 500000000 /\ (Ew x g (f g) (f (g + 1))).hi <= (f g).hi := by
  rw [e1]; show -500000000 <= Bn _ _ /\ Bn _ _ <= _ /\ Bn _ _ <= _
  unfold Bn; split <;> omega
 have e2 : eQ x g (f g) (f (g + 1)) = ⟨PD (f (g + 1)).lo ((Ew x g (f g) (f (g + 1))).lo + J5 x g), Bn (f (g + 1)).hi ((Ew x g (f g) (f (g + 1))).hi + Ke x.a g)⟩ := by
  unfold eQ wr; rw [Bc (by omega) (by omega), Bc (by omega) (by omega)]
 refine ⟨e1, e2, ⟨b1.2.2, b2.2.2⟩, ?_⟩
 rw [e2]; show _ <= PD _ _ /\ Bn _ _ <= _
 unfold PD Bn; constructor <;> split <;> omega
theorem BGK {x : ZL} (h : PreS x) {f : Nat -> Span} (hf : SetI x f) {g : Nat} (hg : g + 1 < x.l.length) (n1 : (f g).lo <= (f g).hi) (n2 : (f (g + 1)).lo <= (f (g + 1)).hi) {t : Nat -> Int} (ht : Tr (gD x.l) (HR (CV x.a)) (x.l.length - 1) t) : (Ew x g (f g) (f (g + 1))).has (t g) /\ (eQ x g (f g) (f (g + 1))).has (t (g + 1)) := by
 obtain ⟨e1, e2, _⟩ := ASA h hf hg n1 n2
 obtain ⟨g0, g1, g2, g3⟩ := h.gap hg
 have t1 := hf.tr t ht g (by omega)
 have t2 := hf.tr t ht (g + 1) hg
 have t3 := ht.gap g (by omega)
 have t3 : J5 x g <= t (g + 1) - t g /\ t (g + 1) - t g <= (HR (CV x.a) g).hi := by rw [<- g0]; exact t3
 have a1 : (Ew x g (f g) (f (g + 1))).has (t g) := by
  rw [e1]; unfold Span.has at *; rw [pT, qV]; omega
 refine ⟨a1, ?_⟩
 rw [e2]; unfold Span.has at *; rw [pT, qV]; omega
def upF (f : Nat -> Span) (g : Nat) (a b : Span) (i : Nat) : Span := if i = g + 1 then b else if i = g then a else f i
theorem ANX (f : Nat -> Span) (g : Nat) (a b : Span) : upF f g a b g = a := by unfold upF; rw [if_neg (by omega), if_pos rfl]
theorem ANT (f : Nat -> Span) (g : Nat) (a b : Span) : upF f g a b (g + 1) = b := by unfold upF; rw [if_pos rfl]
theorem BAN (f : Nat -> Span) (g : Nat) (a b : Span) {i : Nat} (h1 : i ≠ g) (h2 : i ≠ g + 1) : upF f g a b i = f i := by unfold upF; rw [if_neg h2, if_neg h1]
theorem AVT {f f' : Nat -> Span} : ∀ {n : Nat}, (∀ i, i < n -> (f i).lo <= (f' i).lo /\ (f' i).hi <= (f i).hi) -> jF f' n <= jF f n
 | 0, _ => Nat.le_refl _
 | n + 1, h => by
  have := AVT (f := f) (f' := f') (n := n) λ i hi => h i (by omega)
  have := h n (by omega)
  show jF f' n + _ <= jF f n + _
  omega
theorem AKV {f f' : Nat -> Span} : ∀ {n : Nat} {j : Nat}, j < n -> (∀ i, i < n -> (f i).lo <= (f' i).lo /\ (f' i).hi <= (f i).hi) -> f' j ≠ f j -> (f' j).lo <= (f' j).hi -> jF f' n < jF f n
 | 0, j, hj, _, _, _ => absurd hj (Nat.not_lt_zero _)
 | n + 1, j, hj, h, hd, hne => by
  have hn := h n (by omega)
  show jF f' n + _ < jF f n + _
  by_cases e : j = n
  ·subst e
   have := AVT (f := f) (f' := f') (n := j) λ i hi => h i (by omega)
   have : (f' j).lo ≠ (f j).lo ∨ (f' j).hi ≠ (f j).hi := by
    by_cases q : (f' j).lo = (f j).lo
    ·by_cases q2 : (f' j).hi = (f j).hi
     ·exfalso; apply hd
      generalize f' j = s at *; generalize f j = r at *
      obtain ⟨s1, s2⟩ := s; obtain ⟨r1, r2⟩ := r
      simp only at q q2; subst q; subst q2; rfl
     ·exact .inr q2
    ·exact .inl q
   omega
  ·have := AKV (n := n) (j := j) (by omega) (λ i hi => h i (by omega)) hd hne
   omega
theorem BUG {x : ZL} (h : PreS x) {f : Nat -> Span} (hf : SetI x f) (hn : neF f x.l.length) {g : Nat} (hg : g + 1 < x.l.length) (hA : (Ew x g (f g) (f (g + 1))).lo <= (Ew x g (f g) (f (g + 1))).hi) (hB : (eQ x g (f g) (f (g + 1))).lo <= (eQ x g (f g) (f (g + 1))).hi) (hd : Ew x g (f g) (f (g + 1)) ≠ f g ∨ eQ x g (f g) (f (g + 1)) ≠ f (g + 1)) :
  SetI x (upF f g (Ew x g (f g) (f (g + 1))) (eQ x g (f g) (f (g + 1)))) /\ neF (upF f g (Ew x g (f g) (f (g + 1))) (eQ x g (f g) (f (g + 1)))) x.l.length /\ jF (upF f g (Ew x g (f g) (f (g + 1))) (eQ x g (f g) (f (g + 1)))) x.l.length < jF f x.l.length := by
 have n1 := hn g (by omega)
 have n2 := hn (g + 1) hg
 obtain ⟨_, _, s1, s2⟩ := ASA h hf hg n1 n2
 have ht := λ t ht => BGK h hf hg n1 n2 (t := t) ht
 generalize Ew x g (f g) (f (g + 1)) = A at *
 generalize eQ x g (f g) (f (g + 1)) = B at *
 have sub : ∀ i, i < x.l.length -> (f i).lo <= (upF f g A B i).lo /\ (upF f g A B i).hi <= (f i).hi := λ i hi => by
  by_cases e1 : i = g
  ·subst e1; rw [ANX]; exact s1
  ·by_cases e2 : i = g + 1
   ·subst e2; rw [ANT]; exact s2
   ·rw [BAN _ _ _ _ e1 e2]; exact ⟨Int.le_refl _, Int.le_refl _⟩
 refine ⟨⟨λ i hi => ?_, λ t tt i hi => ?_⟩, λ i hi => ?_, ?_⟩
 ·have := sub i hi; have := hf.sub i hi; omega
 ·by_cases e1 : i = g
  ·subst e1; rw [ANX]; exact (ht t tt).1
  ·by_cases e2 : i = g + 1
   ·subst e2; rw [ANT]; exact (ht t tt).2
   ·rw [BAN _ _ _ _ e1 e2]; exact hf.tr t tt i hi
 ·by_cases e1 : i = g
  ·subst e1; rw [ANX]; exact hA
  ·by_cases e2 : i = g + 1
   ·subst e2; rw [ANT]; exact hB
   ·rw [BAN _ _ _ _ e1 e2]; exact hn i hi
 ·rcases hd with hd | hd
  ·exact AKV (j := g) (by omega) sub (by rw [ANX]; exact hd) (by rw [ANX]; exact hA)
  ·exact AKV (j := g + 1) hg sub (by rw [ANT]; exact hd) (by rw [ANT]; exact hB)
theorem PreS.ok {x : ZL} (h : PreS x) : (OH (CV x.a) x.l).all Du = true ↔ ∃ t, Tr (gD x.l) (HR (CV x.a)) (x.l.length - 1) t := by
 have hc := QR.1 h.c0
 have hl := h.len1
 have g1 := pR (w := CV x.a) hc
 have g2 := rC (w := CV x.a) hc
 rw [Ev, <- h.len] at g1 g2
 exact ASG hl.1 hl.2 h.bd g1 g2
theorem BCA {x : ZL} (h : PreS x) (hn : ∀ t, ¬ Tr (gD x.l) (HR (CV x.a)) (x.l.length - 1) t) : Zf x = ([], false) := by
 unfold Zf
 cases hq : (OH (CV x.a) x.l).all Du with
 | false => rfl
 | true => obtain ⟨t, ht⟩ := h.ok.1 hq; exact absurd ht (hn t)
theorem BKB {x : ZL} (h : PreS x) {f : Nat -> Span} (hf : SetI x f) (hn : neF f x.l.length) (hx : fixF x f (x.l.length - 1)) : (Zf x).2 = true /\ (Zf x).1.length = x.l.length /\ ∀ i, i < x.l.length -> gD (Zf x).1 i = f i := by
 have hc := QR.1 h.c0
 have hl := h.len1
 have g1 := pR (w := CV x.a) hc
 have g2 := rC (w := CV x.a) hc
 rw [Ev, <- h.len] at g1 g2
 have fx : ∀ g, g < x.l.length - 1 -> (f (g + 1)).lo - (HR (CV x.a) g).hi <= (f g).lo /\ (f g).hi <= (f (g + 1)).hi - (HR (CV x.a) g).lo /\ (f g).lo + (HR (CV x.a) g).lo <= (f (g + 1)).lo /\ (f (g + 1)).hi <= (f g).hi + (HR (CV x.a) g).hi := λ g hg => by
  have n1 := hn g (by omega)
  have n2 := hn (g + 1) (by omega)
  obtain ⟨e1, e2, _⟩ := ASA h hf (g := g) (by omega) n1 n2
  obtain ⟨q1, q2⟩ := hx g hg
  obtain ⟨g0, g3, g4, g5⟩ := h.gap (g := g) (by omega)
  have a1 := hf.in8 h (i := g) (by omega)
  have a2 := hf.in8 h (i := g + 1) (by omega)
  rw [q1] at e1 e2; rw [q2] at e2
  have p1 : (f g).lo = PD (f g).lo ((f (g + 1)).lo - Ke x.a g) := congrArg Span.lo e1
  have p2 : (f g).hi = Bn (f g).hi ((f (g + 1)).hi - J5 x g) := congrArg Span.hi e1
  have p3 : (f (g + 1)).lo = PD (f (g + 1)).lo ((f g).lo + J5 x g) := congrArg Span.lo e2
  have p4 : (f (g + 1)).hi = Bn (f (g + 1)).hi ((f g).hi + Ke x.a g) := congrArg Span.hi e2
  have r1 := (pT.1 (Int.le_of_eq p1.symm)).2
  have r2 := (qV.1 (Int.le_of_eq p2)).2
  have r3 := (pT.1 (Int.le_of_eq p3.symm)).2
  have r4 := (qV.1 (Int.le_of_eq p4)).2
  omega
 have arc := BJI (N := f) (s := HR (CV x.a)) (n := x.l.length - 1) g2 (λ i hi => hn i (by omega)) (λ g hg => (fx g hg).1) (λ g hg => (fx g hg).2.1) (λ g hg => (fx g hg).2.2.1) (λ g hg => (fx g hg).2.2.2)
 have un := ATL (l := gD x.l) g2 arc (λ i hi y hy => by
  have := hf.sub i (by omega)
  unfold Span.has at *; omega) (λ t ht i hi => hf.tr t ht i (by omega))
 have hq : (OH (CV x.a) x.l).all Du = true := by
  rw [Zu, Fz]
  intro i hi
  rw [oY hl.1 hl.2 h.bd g1 hi, <- un i (by omega)]
  exact hn i hi
 have ev : Zf x = (OH (CV x.a) x.l, true) := by unfold Zf; rw [hq]; rfl
 rw [ev]
 exact ⟨rfl, Fz _ _, λ i hi => by rw [oY hl.1 hl.2 h.bd g1 hi, <- un i (by omega)]⟩
end Go.Bal
