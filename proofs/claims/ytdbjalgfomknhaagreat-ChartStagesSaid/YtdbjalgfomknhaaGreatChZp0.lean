/- Package chart, with the reference: its rows and peaks of Peak (no program in sight). -/
import Derived.Test.YtdbjalgfomknhaaGreatChZs
set_option linter.unusedVariables false
set_option linter.unusedSimpArgs false
namespace Go.Bal
open Go Go.Sym Go.Proofs
def sY (x : CZ2) : Int := DP x.f (-100000000)
def vX (x : CZ2) : Int := KS x.t 100000000
def uW (x : CZ2) (a b q : Nat) : Span := bif decide (q < a) then ⟨(gD (RS x.a) q).lo, KS (gD (RS x.a) q).hi (wr (sY x - 1))⟩ else bif decide (q > b) then ⟨DP (gD (RS x.a) q).lo (wr (vX x + 1)), (gD (RS x.a) q).hi⟩ else ⟨DP (gD (RS x.a) q).lo (sY x), KS (gD (RS x.a) q).hi (vX x)⟩
def K2 (x : CZ2) (a b k q : Nat) : Span := bif decide (q < k) then uW x a b q else gD (RS x.a) q
def vB (x : CZ2) (a b : Nat) : List Span := QR x.a.c.ms.length λ q => K2 x a b x.a.c.ms.length q
def U0 (p s : Span) : Span := ⟨DP p.lo s.lo, DP p.hi s.hi⟩
def pJ (x : CZ2) (a b : Nat) : Nat -> Span
 | 0 => ⟨0, 0⟩
 | i + 1 => bif decide (i < a) then pJ x a b i else bif decide (i > b) then pJ x a b i else U0 (bif decide (i = a) then QF x.a.c (i : Int) else pJ x a b i) (QF x.a.c (i : Int))
def zpH (x : CZ2) : Prop := DK x.a = 0 /\ x.f <= x.t /\ x.f <= 100000000 /\ -100000000 <= x.t
theorem ALW {x : CZ2} (h : zpH x) : (-100000000 <= sY x /\ sY x <= 100000000) /\ (-100000000 <= vX x /\ vX x <= 100000000) /\ (x.f <= sY x /\ (sY x = x.f ∨ sY x = -100000000)) /\ vX x <= x.t /\ (vX x = x.t ∨ vX x = 100000000) := by
 obtain ⟨_, h1, h2, h3⟩ := h
 unfold sY vX
 rcases UV x.f (-100000000) with ⟨q, _⟩ | ⟨q, _⟩ <;> rcases Tw x.t 100000000 with ⟨r, _⟩ | ⟨r, _⟩ <;> rw [q, r] <;> omega
theorem AFQ {x : CZ2} {a b q : Nat} (hq : q < x.a.c.ms.length) : gD (vB x a b) q = uW x a b q := by
 unfold vB; rw [IK _ _ _ hq]; unfold K2; rw [decide_eq_true hq]; rfl
def ownQ (x : CZ2) (a b q : Nat) (v : Int) : Prop := (q < a -> v <= sY x - 1) /\ (b < q -> vX x + 1 <= v) /\ (a <= q -> q <= b -> sY x <= v /\ v <= vX x)
theorem BFL {x : CZ2} (h : zpH x) {a b q : Nat} (hab : a <= b) (v : Int) : (uW x a b q).has v ↔ (gD (RS x.a) q).has v /\ ownQ x a b q v := by
 obtain ⟨r1, r2, _⟩ := ALW h
 have e1 : wr (sY x - 1) = sY x - 1 := Dh (by omega) (by omega)
 have e2 : wr (vX x + 1) = vX x + 1 := Dh (by omega) (by omega)
 unfold uW ownQ
 rw [e1, e2]
 by_cases q1 : q < a
 ·rw [decide_eq_true q1]
  show ((gD (RS x.a) q).lo <= v /\ v <= KS (gD (RS x.a) q).hi (sY x - 1)) ↔ ((gD (RS x.a) q).lo <= v /\ v <= (gD (RS x.a) q).hi) /\ _
  rw [le_minI]; omega
 ·rw [decide_eq_false q1]
  by_cases q2 : q > b
  ·rw [decide_eq_true q2]
   show (DP (gD (RS x.a) q).lo (vX x + 1) <= v /\ v <= (gD (RS x.a) q).hi) ↔ ((gD (RS x.a) q).lo <= v /\ v <= (gD (RS x.a) q).hi) /\ _
   rw [maxI_le]; omega
  ·rw [decide_eq_false q2]
   show (DP (gD (RS x.a) q).lo (sY x) <= v /\ v <= KS (gD (RS x.a) q).hi (vX x)) ↔ ((gD (RS x.a) q).lo <= v /\ v <= (gD (RS x.a) q).hi) /\ _
   rw [maxI_le, le_minI]; omega
theorem ANS {x : CZ2} (h : zpH x) {a b q : Nat} (hq : q < x.a.c.ms.length) : (-100000000 <= (uW x a b q).lo /\ (uW x a b q).lo <= 100000001) /\ -100000001 <= (uW x a b q).hi /\ (uW x a b q).hi <= 100000000 := by
 obtain ⟨r1, r2, _⟩ := ALW h
 have hc := PX.1 (SR h.1).1
 have t := ARP hc h.1 hq
 unfold dC at t
 have e1 : wr (sY x - 1) = sY x - 1 := Dh (by omega) (by omega)
 have e2 : wr (vX x + 1) = vX x + 1 := Dh (by omega) (by omega)
 unfold uW
 rw [e1, e2]
 have m1 := UV (gD (RS x.a) q).lo (vX x + 1)
 have m2 := UV (gD (RS x.a) q).lo (sY x)
 have m3 := Tw (gD (RS x.a) q).hi (sY x - 1)
 have m4 := Tw (gD (RS x.a) q).hi (vX x)
 cases decide (q < a) with
 | true => show (_ <= (gD (RS x.a) q).lo /\ (gD (RS x.a) q).lo <= _) /\ _ <= KS (gD (RS x.a) q).hi (sY x - 1) /\ KS (gD (RS x.a) q).hi (sY x - 1) <= _; omega
 | false =>
  cases decide (q > b) with
  | true => show (_ <= DP (gD (RS x.a) q).lo (vX x + 1) /\ DP (gD (RS x.a) q).lo (vX x + 1) <= _) /\ _ <= (gD (RS x.a) q).hi /\ (gD (RS x.a) q).hi <= _; omega
  | false => show (_ <= DP (gD (RS x.a) q).lo (sY x) /\ DP (gD (RS x.a) q).lo (sY x) <= _) /\ _ <= KS (gD (RS x.a) q).hi (vX x) /\ KS (gD (RS x.a) q).hi (vX x) <= _; omega
theorem BEX {x : CZ2} (h : zpH x) (zl : x.a.z.length < 4611686018427387904) (a b : Nat) : PreS ⟨x.a, vB x a b⟩ := by
 have hl : (vB x a b).length = x.a.c.ms.length := rng_length _ _
 refine ⟨(SR h.1).1, (SR h.1).2.1, zl, hl, λ i hi => ?_, λ i hi => ?_⟩
 ·have hi : i < (vB x a b).length := hi
  show dC _ (gD (vB x a b) i)
  rw [AFQ (by omega)]
  have := ANS h (a := a) (b := b) (q := i) (by omega)
  unfold dC; omega
 ·have hi : i < (vB x a b).length := hi
  show _ <= (gD (vB x a b) i).lo /\ (gD (vB x a b) i).hi <= _
  rw [AFQ (by omega)]
  have := ANS h (a := a) (b := b) (q := i) (by omega)
  omega
theorem BCK {x : CZ2} (h : zpH x) {i j : Nat} (hij : i <= j) (hj : j < x.a.c.ms.length) : (Wl ⟨x.a, vB x i j⟩).2 = aW x i j := by
 have hc := PX.1 (SR h.1).1
 obtain ⟨r1, r2, r3, r4⟩ := ALW h
 have hft : Te x <= Td x := by
  obtain ⟨_, h1, h2, h3⟩ := h
  unfold Te Td
  rcases UV x.f (-100000001) with ⟨q, _⟩ | ⟨q, _⟩ <;> rcases Tw x.t 100000001 with ⟨r, _⟩ | ⟨r, _⟩ <;> rw [q, r] <;> omega
 rw [AYD, Bool.eq_iff_iff, AIA hc h.1 hij hj hft]
 show (YW (GX x.a) (vB x i j)).all Fa = true ↔ _
 rw [G0 hc h.1 (l := vB x i j) (rng_length _ _) (λ q hq => by
  rw [AFQ hq]; have := ANS h (a := i) (b := j) hq; unfold dC; omega) (Q := ownQ x i j) (λ q hq v => by rw [AFQ hq]; exact BFL h hij v)]
 constructor
 ·rintro ⟨u, u1, u2⟩
  refine ⟨u, u1, λ q hq => ?_⟩
  have bk := u1.bd hc hq
  obtain ⟨a1, a2, a3⟩ := u2 q hq
  constructor
  ·rintro ⟨k1, k2⟩
   refine ⟨Classical.byContradiction λ e => ?_, Classical.byContradiction λ e => ?_⟩
   ·have := a1 (by omega); omega
   ·have := a2 (by omega); omega
  ·rintro ⟨k1, k2⟩
   have := a3 k1 k2; omega
 ·rintro ⟨u, u1, u2⟩
  refine ⟨u, u1, λ q hq => ?_⟩
  have bk := u1.bd hc hq
  have w := u2 q hq
  refine ⟨λ e => ?_, λ e => ?_, λ e1 e2 => ?_⟩
  ·have l := u1.lt hc (show q < i by omega) (by omega)
   have w2 := (u2 i (by omega)).2 (by omega)
   have : ¬ (x.f <= u q /\ u q <= x.t) := λ z => by have := w.1 z; omega
   omega
  ·have l := u1.lt hc (show j < q by omega) hq
   have w2 := (u2 j hj).2 (by omega)
   have : ¬ (x.f <= u q /\ u q <= x.t) := λ z => by have := w.1 z; omega
   omega
  ·have := w.2 ⟨e1, e2⟩; omega
theorem BQO (x : CZ2) {a b : Nat} : ∀ k, a <= k -> k <= b -> (∀ i, a <= i -> i <= k -> (QF x.a.c (i : Int)).lo <= (pJ x a b (k + 1)).lo /\ (QF x.a.c (i : Int)).hi <= (pJ x a b (k + 1)).hi) /\ (∃ i, (a <= i /\ i <= k) /\ (pJ x a b (k + 1)).lo = (QF x.a.c (i : Int)).lo) /\ ∃ i, (a <= i /\ i <= k) /\ (pJ x a b (k + 1)).hi = (QF x.a.c (i : Int)).hi := by
 intro k
 induction k with
 | zero =>
  intro h1 h2
  obtain rfl : a = 0 := by omega
  have e : pJ x 0 b 1 = U0 (QF x.a.c ((0 : Nat) : Int)) (QF x.a.c ((0 : Nat) : Int)) := by
   show (bif decide (0 < 0) then _ else bif decide (0 > b) then _ else U0 (bif decide (0 = 0) then _ else _) _) = _
   rw [decide_eq_false (show ¬ 0 > b by omega)]; rfl
  rw [e]
  have m1 := UV (QF x.a.c ((0 : Nat) : Int)).lo (QF x.a.c ((0 : Nat) : Int)).lo
  have m2 := UV (QF x.a.c ((0 : Nat) : Int)).hi (QF x.a.c ((0 : Nat) : Int)).hi
  refine ⟨λ i i1 i2 => ?_, ⟨0, ⟨by omega, by omega⟩, ?_⟩, ⟨0, ⟨by omega, by omega⟩, ?_⟩⟩
  ·obtain rfl : i = 0 := by omega
   show _ <= DP _ _ /\ _ <= DP _ _; omega
  ·show DP _ _ = _; omega
  ·show DP _ _ = _; omega
 | succ k ih =>
  intro h1 h2
  by_cases e : a = k + 1
  ·have e2 : pJ x a b (k + 1 + 1) = U0 (QF x.a.c ((k + 1 : Nat) : Int)) (QF x.a.c ((k + 1 : Nat) : Int)) := by
    show (bif decide (k + 1 < a) then _ else bif decide (k + 1 > b) then _ else U0 (bif decide (k + 1 = a) then _ else _) _) = _
    rw [decide_eq_false (show ¬ k + 1 < a by omega), decide_eq_false (show ¬ k + 1 > b by omega), decide_eq_true e.symm]; rfl
   rw [e2]
   have m1 := UV (QF x.a.c ((k + 1 : Nat) : Int)).lo (QF x.a.c ((k + 1 : Nat) : Int)).lo
   have m2 := UV (QF x.a.c ((k + 1 : Nat) : Int)).hi (QF x.a.c ((k + 1 : Nat) : Int)).hi
   refine ⟨λ i i1 i2 => ?_, ⟨k + 1, ⟨by omega, by omega⟩, ?_⟩, ⟨k + 1, ⟨by omega, by omega⟩, ?_⟩⟩
   ·obtain rfl : i = k + 1 := by omega
    show _ <= DP _ _ /\ _ <= DP _ _; omega
   ·show DP _ _ = _; omega
   ·show DP _ _ = _; omega
  ·obtain ⟨p1, ⟨i1, q1, q2⟩, ⟨i2, q3, q4⟩⟩ := ih (by omega) (by omega)
   have e2 : pJ x a b (k + 1 + 1) = U0 (pJ x a b (k + 1)) (QF x.a.c ((k + 1 : Nat) : Int)) := by
    show (bif decide (k + 1 < a) then _ else bif decide (k + 1 > b) then _ else U0 (bif decide (k + 1 = a) then _ else _) _) = _
    rw [decide_eq_false (show ¬ k + 1 < a by omega), decide_eq_false (show ¬ k + 1 > b by omega), decide_eq_false (show ¬ k + 1 = a by omega)]; rfl
   rw [e2]
   have m1 := UV (pJ x a b (k + 1)).lo (QF x.a.c ((k + 1 : Nat) : Int)).lo
   have m2 := UV (pJ x a b (k + 1)).hi (QF x.a.c ((k + 1 : Nat) : Int)).hi
   refine ⟨λ i j1 j2 => ?_, ?_, ?_⟩
   ·show _ <= DP _ _ /\ _ <= DP _ _
    by_cases e3 : i = k + 1
    ·subst e3; omega
    ·have := p1 i j1 (by omega); omega
   ·show ∃ i, _ /\ DP _ _ = _
    rcases m1 with ⟨m, _⟩ | ⟨m, _⟩
    ·exact ⟨i1, by omega, by rw [m, q2]⟩
    ·exact ⟨k + 1, by omega, m⟩
   ·show ∃ i, _ /\ DP _ _ = _
    rcases m2 with ⟨m, _⟩ | ⟨m, _⟩
    ·exact ⟨i2, by omega, by rw [m, q4]⟩
    ·exact ⟨k + 1, by omega, m⟩
theorem ARC (x : CZ2) {a b : Nat} (hab : a <= b) : ∀ k, b + 1 <= k -> pJ x a b k = pJ x a b (b + 1)
 | 0, h => by omega
 | k + 1, h => by
  by_cases e : b = k
  ·subst e; rfl
  ·rw [<- ARC x hab k (by omega)]
   show (bif decide (k < a) then _ else bif decide (k > b) then _ else U0 _ _) = _
   rw [decide_eq_false (show ¬ k < a by omega), decide_eq_true (show k > b by omega)]; rfl
theorem BKZ (x : CZ2) {a b : Nat} (hab : a <= b) (hb : b < x.a.c.ms.length) : pJ x a b x.a.c.ms.length = ⟨gLo (Tq x a b), gHi (Tq x a b)⟩ := by
 rw [ARC x hab _ (by omega)]
 obtain ⟨p1, ⟨i1, q1, q2⟩, ⟨i2, q3, q4⟩⟩ := BQO x (a := a) (b := b) b hab (Nat.le_refl _)
 have hl := BDW x a b
 obtain ⟨g1, ⟨j1, g2, g3⟩⟩ := BLN (l := Tq x a b) (by omega)
 obtain ⟨g4, ⟨j2, g5, g6⟩⟩ := BNN (l := Tq x a b) (by omega)
 have at_ : ∀ k, k < b + 1 - a -> gD (Tq x a b) k = QF x.a.c ((a + k : Nat) : Int) := λ k hk => by rw [BNM x hk, Ey (by omega)]
 rw [at_ j1 (by omega)] at g3
 rw [at_ j2 (by omega)] at g6
 have k1 := g1 (i1 - a) (by omega)
 rw [at_ _ (by omega), show a + (i1 - a) = i1 by omega] at k1
 have k2 := g4 (i2 - a) (by omega)
 rw [at_ _ (by omega), show a + (i2 - a) = i2 by omega] at k2
 have k3 := (p1 (a + j1) (by omega) (by omega)).1
 have k4 := (p1 (a + j2) (by omega) (by omega)).2
 generalize pJ x a b (b + 1) = P at *
 obtain ⟨P1, P2⟩ := P
 simp only at *
 congr 1 <;> omega
theorem BPE {x : CZ2} (h0 : DK x.a = 0) (hft : x.f <= x.t) (ho : x.f > 100000000 ∨ x.t < -100000000) : Kt x = (⟨0, 0⟩, 5) := by
 have hc := PX.1 (SR h0).1
 have e : Kt x = Gb (Er x x.a.c.ms.length) := by
  unfold Kt jQ; rw [h0, decide_eq_false (show ¬ x.t < x.f by omega)]; rfl
 rw [e]
 rcases (BFJ hc h0 hft).who with ⟨⟨s, u, u1, i, j, i1, i2, i3, _⟩, _⟩ | ⟨_, q⟩
 ·exfalso
  have b := u1.bd hc (i := i) (by omega)
  have := (i3 i (by omega)).2 (by omega)
  omega
 ·exact q
end Go.Bal
