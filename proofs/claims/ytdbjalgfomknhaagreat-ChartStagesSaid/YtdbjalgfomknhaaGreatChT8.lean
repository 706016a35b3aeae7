/- Package chart: what Stage, Peak and First return, by truths (no program in sight). -/
import Derived.Test.YtdbjalgfomknhaaGreatChM
import Derived.Test.YtdbjalgfomknhaaGreatChJ
set_option linter.unusedVariables false
set_option linter.unusedSimpArgs false
namespace Go.Bal
open Go Go.Sym Go.Proofs
theorem UV (a b : Int) : DP a b = a /\ b <= a ∨ DP a b = b /\ a <= b := by unfold DP; split <;> omega
theorem Tw (a b : Int) : KS a b = a /\ a <= b ∨ KS a b = b /\ b <= a := by unfold KS; split <;> omega
def HulIs (h : Hul) (S : Span -> Prop) : Prop := (h.m = true -> (∃ s, S s /\ s.lo = h.s.lo) /\ ∃ s, S s /\ s.hi = h.s.hi) /\ ∀ s, S s -> h.m = true /\ h.s.lo <= s.lo /\ s.hi <= h.s.hi
theorem HulIs.zero {S : Span -> Prop} (h : ∀ s, ¬ S s) : HulIs zHul S := ⟨λ h => (by cases h), λ s hs => absurd hs (h s)⟩
theorem HulIs.ext {h : Hul} {S T : Span -> Prop} (hs : HulIs h S) (e : ∀ s, S s ↔ T s) : HulIs h T :=
 ⟨λ hm => let ⟨⟨a, a1, a2⟩, b, b1, b2⟩ := hs.1 hm; ⟨⟨a, (e a).1 a1, a2⟩, b, (e b).1 b1, b2⟩, λ s q => hs.2 s ((e s).2 q)⟩
theorem HulIs.add {h : Hul} {S : Span -> Prop} (hs : HulIs h S) (x : Span) : HulIs (WT h x) λ s => S s ∨ s = x := by
 cases hm : h.m with
 | false =>
  have no : ∀ s, ¬ S s := λ s q => by have := (hs.2 s q).1; rw [hm] at this; cases this
  have e : WT h x = ⟨x, true⟩ := by unfold WT; rw [hm]; rfl
  rw [e]
  exact ⟨λ _ => ⟨⟨x, .inr rfl, rfl⟩, x, .inr rfl, rfl⟩, λ s q => q.elim (λ q => absurd q (no s)) λ q => by subst q; exact ⟨rfl, Int.le_refl _, Int.le_refl _⟩⟩
 | true =>
  have e : WT h x = ⟨⟨KS x.lo h.s.lo, DP x.hi h.s.hi⟩, true⟩ := by unfold WT; rw [hm]; rfl
  obtain ⟨⟨a, a1, a2⟩, b, b1, b2⟩ := hs.1 hm
  have m1 := ARR x.lo h.s.lo
  have m2 := AGE x.hi h.s.hi
  rw [e]
  refine ⟨λ _ => ⟨?_, ?_⟩, λ s q => ⟨rfl, ?_, ?_⟩⟩
  ·show ∃ s, (S s ∨ s = x) /\ s.lo = KS x.lo h.s.lo
   rcases Tw x.lo h.s.lo with ⟨q, _⟩ | ⟨q, _⟩ <;> rw [q]
   ·exact ⟨x, .inr rfl, rfl⟩
   ·exact ⟨a, .inl a1, a2⟩
  ·show ∃ s, (S s ∨ s = x) /\ s.hi = DP x.hi h.s.hi
   rcases UV x.hi h.s.hi with ⟨q, _⟩ | ⟨q, _⟩ <;> rw [q]
   ·exact ⟨x, .inr rfl, rfl⟩
   ·exact ⟨b, .inl b1, b2⟩
  ·show KS x.lo h.s.lo <= s.lo
   rcases q with q | q
   ·have := (hs.2 s q).2; omega
   ·subst q; exact m1.1
  ·show s.hi <= DP x.hi h.s.hi
   rcases q with q | q
   ·have := (hs.2 s q).2; omega
   ·subst q; exact m2.1
theorem HulIs.who {h : Hul} {S : Span -> Prop} (hs : HulIs h S) : (∃ s, S s) /\ (Gb h).2 = 0 /\ (Gb h).1 = h.s /\ h.m = true ∨ (∀ s, ¬ S s) /\ Gb h = (⟨0, 0⟩, 5) := by
 cases hm : h.m with
 | true =>
  obtain ⟨⟨a, a1, _⟩, _⟩ := hs.1 hm
  exact .inl ⟨⟨a, a1⟩, by unfold Gb; rw [hm]; rfl, by unfold Gb; rw [hm]; rfl, rfl⟩
 | false => exact .inr ⟨λ s q => (by have := (hs.2 s q).1; rw [hm] at this; cases this), by unfold Gb; rw [hm]; rfl⟩
theorem G0 {a : CZ} (h : ChOk a.c) (hr : DK a = 0) {l : List Span} (hl : l.length = a.c.ms.length) (hb : ∀ i, i < a.c.ms.length -> dC 1000000000 (gD l i)) {Q : Nat -> Int -> Prop} (hq : ∀ i, i < a.c.ms.length -> ∀ x, (gD l i).has x ↔ (gD (RS a) i).has x /\ Q i x) : (YW (GX a) l).all Fa = true ↔ ∃ u, TrC a.c (GX a).sp u /\ ∀ i, i < a.c.ms.length -> Q i (u i) := by
 have hm := h.m
 have b1 : gpOk (SZ (GX a)) (a.c.ms.length - 1) := tR (w := GX a) h
 have b2 : ∀ g, g < a.c.ms.length - 1 -> (SZ (GX a) g).lo <= (SZ (GX a) g).hi := tZ (w := GX a) h
 rw [AND (by omega) (by omega) (λ i hi => hb i (by omega)) (by rw [hl]; exact b1) (by rw [hl]; exact b2), hl]
 constructor
 ·rintro ⟨u, hu⟩
  refine ⟨u, ⟨λ i hi => ?_, λ k hk => ?_⟩, λ i hi => ((hq i hi _).1 (hu.at_ i (by omega))).2⟩
  ·obtain ⟨v, v1, v2⟩ := (ARN h hr (by omega)).1 ((hq i (by omega) _).1 (hu.at_ i hi)).1
   have := v1.note (i := i) (by omega)
   rw [v2] at this; exact this
  ·have := hu.gap k hk
   rw [dH (w := GX a) h (by show k + 1 < a.c.ms.length; omega)] at this; exact this
 ·rintro ⟨u, hu, uq⟩
  refine ⟨u, λ i hi => (hq i (by omega) _).2 ⟨(ARN h hr (by omega)).2 ⟨u, hu, rfl⟩, uq i (by omega)⟩, λ k hk => ?_⟩
  have := hu.gap k hk
  rw [dH (w := GX a) h (by show k + 1 < a.c.ms.length; omega)]; exact this
theorem TrC.bd {c : Cht} (h : ChOk c) {sp : Nat -> Bool} {u : Nat -> Int} (hu : TrC c sp u) {i : Nat} (hi : i < c.ms.length) : -100000000 <= u i /\ u i <= 100000000 := by
 have n := hu.note hi
 have b := (M8 h (i : Int)).1
 unfold dC at b
 unfold Span.has at n
 omega
theorem TrC.inc {c : Cht} (h : ChOk c) {sp : Nat -> Bool} {u : Nat -> Int} (hu : TrC c sp u) {g : Nat} (hg : g + 1 < c.ms.length) : u g < u (g + 1) := by
 have a := (hu.gap g (by omega)).1
 have b := (h.gap sp hg).1
 have a : c.p.lo * XL c g <= u (g + 1) - u g := a
 omega
theorem TrC.lt {c : Cht} (h : ChOk c) {sp : Nat -> Bool} {u : Nat -> Int} (hu : TrC c sp u) {i : Nat} : ∀ {j : Nat}, i < j -> j < c.ms.length -> u i < u j
 | j + 1, hij, hj => by
  have := hu.inc h hj
  rcases Nat.lt_or_ge i j with q | q
  ·have := hu.lt h q (by omega); omega
  ·obtain rfl : i = j := by omega
   exact this
theorem TrC.le {c : Cht} (h : ChOk c) {sp : Nat -> Bool} {u : Nat -> Int} (hu : TrC c sp u) {i j : Nat} (hij : i <= j) (hj : j < c.ms.length) : u i <= u j := by
 rcases Nat.lt_or_ge i j with q | q
 ·exact Int.le_of_lt (hu.lt h q hj)
 ·obtain rfl : i = j := by omega
  exact Int.le_refl _
theorem Ey {c : Cht} {i : Nat} (hi : i < c.ms.length) : gD (WG c) i = QF c i := IK _ _ _ hi
theorem M6 {l : List Span} {k : Nat} {a b : Int} {i : Nat} (hi : i < l.length) (hk : k <= l.length) : gD (kW l (k : Int) a b) i = ⟨bif decide (i = k) then DP (gD l i).lo b else (gD l i).lo, bif decide (i + 1 = k) then KS (gD l i).hi a else (gD l i).hi⟩ := by
 unfold kW
 rw [IK _ _ _ hi]
 unfold parM
 have e1 : ((k : Int)).toNat = k := by omega
 rw [e1]
 congr 1
 ·by_cases q : i = k
  ·rw [decide_eq_true q, decide_eq_true (show (k : Int) < l.length by omega)]; rfl
  ·rw [decide_eq_false q]; rfl
 ·by_cases q : i + 1 = k
  ·rw [decide_eq_true q, decide_eq_true (show (k : Int) > 0 by omega), decide_eq_true (show i = ((k : Int) - 1).toNat by omega)]; rfl
  ·rw [decide_eq_false q]
   have : (decide ((k : Int) > 0) && decide (i = ((k : Int) - 1).toNat)) = false := by
    by_cases q1 : (k : Int) > 0
    ·have : ¬ i = ((k : Int) - 1).toNat := by omega
     rw [decide_eq_false this, Bool.and_false]
    ·rw [decide_eq_false q1]; rfl
   rw [this]
theorem ARV {b : Bool} {p q v : Int} : (bif b then DP p q else p) <= v ↔ p <= v /\ (b = true -> q <= v) := by
 cases b
 ·exact ⟨λ h => ⟨h, λ h => (by cases h)⟩, λ h => h.1⟩
 ·exact maxI_le.trans ⟨λ h => ⟨h.1, λ _ => h.2⟩, λ h => ⟨h.1, h.2 rfl⟩⟩
theorem AQU {b : Bool} {p q v : Int} : v <= (bif b then KS p q else p) ↔ v <= p /\ (b = true -> v <= q) := by
 cases b
 ·exact ⟨λ h => ⟨h, λ h => (by cases h)⟩, λ h => h.1⟩
 ·exact le_minI.trans ⟨λ h => ⟨h.1, λ _ => h.2⟩, λ h => ⟨h.1, h.2 rfl⟩⟩
theorem BLO {l : List Span} {a b i : Nat} {x y : Int} (hx : -100000001 <= x /\ x <= 100000001) (hy : -100000001 <= y /\ y <= 100000001) (hi : i < l.length) (ha : a < l.length) (hb : b < l.length) (hb2 : b < 100000) (v : Int) : (gD (Z1 l a b x y) i).has v ↔ (gD l i).has v /\ (i = a -> x <= v) /\ (i + 1 = a -> v <= x - 1) /\ (i = b + 1 -> y + 1 <= v) /\ (i = b -> v <= y) := by
 have e1 : wr (x - 1) = x - 1 := Dh (by omega) (by omega)
 have e2 : wr ((b : Int) + 1) = ((b + 1 : Nat) : Int) := FH (by omega)
 have e3 : wr (y + 1) = y + 1 := Dh (by omega) (by omega)
 unfold Z1
 rw [e1, e2, e3, M6 (by rw [cI]; exact hi) (by rw [cI]; omega), M6 hi (by omega)]
 unfold Span.has
 show (bif decide (i = b + 1) then DP (bif decide (i = a) then DP (gD l i).lo x else (gD l i).lo) (y + 1) else (bif decide (i = a) then DP (gD l i).lo x else (gD l i).lo)) <= v /\ v <= (bif decide (i + 1 = b + 1) then KS (bif decide (i + 1 = a) then KS (gD l i).hi (x - 1) else (gD l i).hi) y else (bif decide (i + 1 = a) then KS (gD l i).hi (x - 1) else (gD l i).hi)) ↔ _
 rw [ARV, ARV, AQU, AQU]
 simp only [decide_eq_true_eq]
 omega
theorem BOS {l : List Span} {a b i : Nat} {x y : Int} (hx : -100000001 <= x /\ x <= 100000001) (hy : -100000001 <= y /\ y <= 100000001) (hi : i < l.length) (ha : a < l.length) (hb : b < l.length) (hb2 : b < 100000) (hl : dC 100000000 (gD l i)) : dC 1000000000 (gD (Z1 l a b x y) i) := by
 have e1 : wr (x - 1) = x - 1 := Dh (by omega) (by omega)
 have e2 : wr ((b : Int) + 1) = ((b + 1 : Nat) : Int) := FH (by omega)
 have e3 : wr (y + 1) = y + 1 := Dh (by omega) (by omega)
 unfold Z1
 rw [e1, e2, e3, M6 (by rw [cI]; exact hi) (by rw [cI]; omega), M6 hi (by omega)]
 unfold dC at *
 obtain ⟨⟨l1, l2⟩, l3, l4⟩ := hl
 have m1 : ∀ (b : Bool) (p q : Int), -100000002 <= p /\ p <= 100000002 -> -100000002 <= q /\ q <= 100000002 -> -100000002 <= (bif b then DP p q else p) /\ (bif b then DP p q else p) <= 100000002 := λ b p q hp hq => by
  cases b
  ·exact hp
  ·exact BGI hp hq
 have m2 : ∀ (b : Bool) (p q : Int), -100000002 <= p /\ p <= 100000002 -> -100000002 <= q /\ q <= 100000002 -> -100000002 <= (bif b then KS p q else p) /\ (bif b then KS p q else p) <= 100000002 := λ b p q hp hq => by
  cases b
  ·exact hp
  ·show _ <= KS p q /\ KS p q <= _
   unfold KS; split <;> omega
 have a1 := m1 (decide (i = a)) (gD l i).lo x (by omega) (by omega)
 have a2 := m1 (decide (i = b + 1)) _ (y + 1) a1 (by omega)
 have b1 := m2 (decide (i + 1 = a)) (gD l i).hi (x - 1) (by omega) (by omega)
 have b2 := m2 (decide (i + 1 = b + 1)) _ y b1 (by omega)
 exact ⟨⟨Int.le_trans (by decide) a2.1, Int.le_trans a2.2 (by decide)⟩, Int.le_trans (by decide) b2.1, Int.le_trans b2.2 (by decide)⟩
def inW (c : Cht) (u : Nat -> Int) (f t : Int) (a b : Nat) : Prop := ∀ i, i < c.ms.length -> (f <= u i /\ u i <= t ↔ a <= i /\ i <= b)
theorem AIA {x : CZ2} (h : ChOk x.a.c) (hr : DK x.a = 0) {i j : Nat} (hij : i <= j) (hj : j < x.a.c.ms.length) (hft : Te x <= Td x) : aW x i j = true ↔ ∃ u, TrC x.a.c (GX x.a).sp u /\ inW x.a.c u x.f x.t i j := by
 have hm := h.m
 have tl := Wm hr
 have mx := AGE x.f (-100000001)
 have mn := ARR x.t 100000001
 have mx2 := UV x.f (-100000001)
 have mn2 := Tw x.t 100000001
 have hF : -100000001 <= Te x /\ Te x <= 100000001 := by unfold Te Td at *; omega
 have hT : -100000001 <= Td x /\ Td x <= 100000001 := by unfold Te Td at *; omega
 unfold aW
 rw [G0 h hr (by rw [AKG, tl]) (λ k hk => BOS hF hT (by omega) (by omega) (by omega) (by omega) (ARP h hr hk)) (λ k hk v => BLO hF hT (by omega) (by omega) (by omega) (by omega) v)]
 constructor
 ·rintro ⟨u, u1, u2⟩
  refine ⟨u, u1, λ k hk => ?_⟩
  have bk := u1.bd h hk
  have a1 := (u2 i (by omega)).1 rfl
  have a2 := (u2 j hj).2.2.2 rfl
  constructor
  ·rintro ⟨k1, k2⟩
   constructor
   ·refine Classical.byContradiction λ q => ?_
    have l1 := u1.le h (show k <= i - 1 by omega) (show i - 1 < _ by omega)
    have l2 := (u2 (i - 1) (by omega)).2.1 (by omega)
    unfold Te at *; omega
   ·refine Classical.byContradiction λ q => ?_
    have l1 := u1.le h (show j + 1 <= k by omega) hk
    have l2 := (u2 (j + 1) (by omega)).2.2.1 rfl
    unfold Td at *; omega
  ·rintro ⟨k1, k2⟩
   have l1 := u1.le h k1 hk
   have l2 := u1.le h k2 hj
   unfold Te Td at *; omega
 ·rintro ⟨u, u1, u2⟩
  refine ⟨u, u1, λ k hk => ?_⟩
  have bk := u1.bd h hk
  have w := u2 k hk
  refine ⟨λ e => ?_, λ e => ?_, λ e => ?_, λ e => ?_⟩
  ·have := w.2 (by omega); unfold Te; exact maxI_le.2 ⟨this.1, by omega⟩
  ·have l := u1.lt h (show k < i by omega) (by omega)
   have w2 := (u2 i (by omega)).2 (by omega)
   have : ¬ (x.f <= u k /\ u k <= x.t) := λ q => by have := w.1 q; omega
   unfold Te; omega
  ·have l := u1.lt h (show j < k by omega) hk
   have w2 := (u2 j hj).2 (by omega)
   have : ¬ (x.f <= u k /\ u k <= x.t) := λ q => by have := w.1 q; omega
   unfold Td; omega
  ·have := w.2 (by omega); unfold Td; exact le_minI.2 ⟨this.2, by omega⟩
def PkS (x : CZ2) (s : Span) : Prop := ∃ u, TrC x.a.c (GX x.a).sp u /\ ∃ i j, i <= j /\ j < x.a.c.ms.length /\ inW x.a.c u x.f x.t i j /\ s = ⟨gLo (Tq x i j), gHi (Tq x i j)⟩
theorem AYQ (x : CZ2) (a : Nat) {h : Hul} {S : Span -> Prop} (hs : HulIs h S) : ∀ k, HulIs (vW x a h k) λ s => S s ∨ ∃ j, j < k /\ aW x a (a + j) = true /\ s = ⟨gLo (Tq x a (a + j)), gHi (Tq x a (a + j))⟩
 | 0 => hs.ext λ s => ⟨.inl, λ h => h.elim id λ ⟨j, h, _⟩ => absurd h (Nat.not_lt_zero _)⟩
 | k + 1 => by
  have ih := AYQ x a hs k
  show HulIs (bif aW x a (a + k) then WT (vW x a h k) ⟨gLo (Tq x a (a + k)), gHi (Tq x a (a + k))⟩ else vW x a h k) _
  cases hi : aW x a (a + k) with
  | true =>
   refine (ih.add _).ext λ s => ⟨?_, ?_⟩
   ·rintro ((q | ⟨j, h1, h2⟩) | q)
    ·exact .inl q
    ·exact .inr ⟨j, by omega, h2⟩
    ·exact .inr ⟨k, Nat.lt_succ_self _, hi, q⟩
   ·rintro (q | ⟨j, h1, h2, h3⟩)
    ·exact .inl (.inl q)
    ·rcases Nat.lt_or_ge j k with r | r
     ·exact .inl (.inr ⟨j, r, h2, h3⟩)
     ·obtain rfl : j = k := by omega
      exact .inr h3
  | false =>
   refine ih.ext λ s => ⟨λ q => q.elim .inl λ ⟨j, h1, h2⟩ => .inr ⟨j, by omega, h2⟩, ?_⟩
   rintro (q | ⟨j, h1, h2, h3⟩)
   ·exact .inl q
   ·rcases Nat.lt_or_ge j k with r | r
    ·exact .inr ⟨j, r, h2, h3⟩
    ·obtain rfl : j = k := by omega
     rw [h2] at hi; cases hi
theorem BAD (x : CZ2) (hft : Te x <= Td x) : ∀ k, HulIs (Er x k) λ s => ∃ a j, a < k /\ j < x.a.c.ms.length - a /\ aW x a (a + j) = true /\ s = ⟨gLo (Tq x a (a + j)), gHi (Tq x a (a + j))⟩
 | 0 => HulIs.zero λ s ⟨a, j, h, _⟩ => absurd h (Nat.not_lt_zero _)
 | k + 1 => by
  have ih := AYQ x k (BAD x hft k) (x.a.c.ms.length - k)
  show HulIs (bif decide (Td x >= Te x) then vW x k (Er x k) (x.a.c.ms.length - k) else Er x k) _
  rw [decide_eq_true hft]
  refine ih.ext λ s => ⟨?_, ?_⟩
  ·rintro (⟨a, j, h1, h2⟩ | ⟨j, h1, h2⟩)
   ·exact ⟨a, j, by omega, h2⟩
   ·exact ⟨k, j, Nat.lt_succ_self _, h1, h2⟩
  ·rintro ⟨a, j, h1, h2, h3⟩
   rcases Nat.lt_or_ge a k with r | r
   ·exact .inl ⟨a, j, r, h2, h3⟩
   ·obtain rfl : a = k := by omega
    exact .inr ⟨j, h2, h3⟩
theorem AWX (x : CZ2) (hft : ¬ Te x <= Td x) : ∀ k, Er x k = zHul
 | 0 => rfl
 | k + 1 => by
  show (bif decide (Td x >= Te x) then vW x k (Er x k) (x.a.c.ms.length - k) else Er x k) = zHul
  rw [decide_eq_false hft]; exact AWX x hft k
theorem BFJ {x : CZ2} (h : ChOk x.a.c) (hr : DK x.a = 0) (ht : x.f <= x.t) : HulIs (Er x x.a.c.ms.length) (PkS x) := by
 by_cases hft : Te x <= Td x
 ·refine (BAD x hft _).ext λ s => ⟨?_, ?_⟩
  ·rintro ⟨a, j, h1, h2, h3, h4⟩
   obtain ⟨u, u1, u2⟩ := (AIA h hr (show a <= a + j by omega) (by omega) hft).1 h3
   exact ⟨u, u1, a, a + j, by omega, by omega, u2, h4⟩
  ·rintro ⟨u, u1, i, j, h1, h2, h3, h4⟩
   refine ⟨i, j - i, by omega, by omega, ?_, ?_⟩
   ·rw [show i + (j - i) = j by omega]; exact (AIA h hr h1 h2 hft).2 ⟨u, u1, h3⟩
   ·rw [show i + (j - i) = j by omega]; exact h4
 ·rw [AWX x hft]
  refine HulIs.zero ?_
  rintro s ⟨u, u1, i, j, h1, h2, h3, h4⟩
  have b := u1.bd h (show i < _ by omega)
  have w := (h3 i (by omega)).2 ⟨Nat.le_refl _, h1⟩
  refine hft ?_
  exact Int.le_trans (maxI_le.2 ⟨w.1, by omega⟩) (le_minI.2 ⟨w.2, by omega⟩)
theorem zU : ∀ (l : List Int) (a : Int), a <= l.foldl DP a /\ (∀ x ∈ l, x <= l.foldl DP a) /\ (l.foldl DP a = a ∨ l.foldl DP a ∈ l)
 | [], a => ⟨Int.le_refl _, λ x h => (by cases h), .inl rfl⟩
 | y :: l, a => by
  obtain ⟨h1, h2, h3⟩ := zU l (DP a y)
  have m := AGE a y
  show a <= l.foldl DP (DP a y) /\ (∀ x ∈ y :: l, x <= l.foldl DP (DP a y)) /\ (l.foldl DP (DP a y) = a ∨ l.foldl DP (DP a y) ∈ y :: l)
  refine ⟨by omega, λ x hx => ?_, ?_⟩
  ·rcases List.mem_cons.1 hx with e | hx
   ·subst e; omega
   ·exact h2 x hx
  ·rcases h3 with h3 | h3
   ·rw [h3]
    rcases UV a y with ⟨q, _⟩ | ⟨q, _⟩
    ·exact .inl q
    ·rw [q]; exact .inr (List.mem_cons_self ..)
   ·exact .inr (List.mem_cons_of_mem _ h3)
theorem BLN {l : List Span} (h : 0 < l.length) : (∀ i, i < l.length -> (gD l i).lo <= gLo l) /\ ∃ i, i < l.length /\ gLo l = (gD l i).lo := by
 obtain ⟨h1, h2, h3⟩ := zU (l.map (·.lo)) (gD l 0).lo
 refine ⟨λ i hi => h2 _ (List.mem_map.2 ⟨gD l i, WR hi, rfl⟩), ?_⟩
 rcases h3 with h3 | h3
 ·exact ⟨0, h, h3⟩
 ·obtain ⟨s, s1, s2⟩ := List.mem_map.1 h3
  obtain ⟨i, i1, i2⟩ := YH s1
  exact ⟨i, i1, by rw [i2]; exact s2.symm⟩
theorem BNN {l : List Span} (h : 0 < l.length) : (∀ i, i < l.length -> (gD l i).hi <= gHi l) /\ ∃ i, i < l.length /\ gHi l = (gD l i).hi := by
 obtain ⟨h1, h2, h3⟩ := zU (l.map (·.hi)) (gD l 0).hi
 refine ⟨λ i hi => h2 _ (List.mem_map.2 ⟨gD l i, WR hi, rfl⟩), ?_⟩
 rcases h3 with h3 | h3
 ·exact ⟨0, h, h3⟩
 ·obtain ⟨s, s1, s2⟩ := List.mem_map.1 h3
  obtain ⟨i, i1, i2⟩ := YH s1
  exact ⟨i, i1, by rw [i2]; exact s2.symm⟩
theorem BDW (x : CZ2) (i j : Nat) : (Tq x i j).length = j + 1 - i := rng_length _ _
theorem BNM (x : CZ2) {i j k : Nat} (h : k < j + 1 - i) : gD (Tq x i j) k = gD (WG x.a.c) (i + k) := IK _ _ _ h
end Go.Bal
