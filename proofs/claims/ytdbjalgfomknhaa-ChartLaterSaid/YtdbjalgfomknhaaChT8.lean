/- Package chart: what Stage, Peak and First return, by truths (no program in sight). -/
import Derived.Test.YtdbjalgfomknhaaChT5
import Derived.Test.YtdbjalgfomknhaaChJ
set_option linter.unusedVariables false
set_option linter.unusedSimpArgs false
namespace Go.Bal
open Go Go.Sym Go.Proofs
theorem BAU (a b : Int) : AY a b = a /\ b <= a ∨ AY a b = b /\ a <= b := by unfold AY; split <;> omega
theorem BWF (a b : Int) : DX a b = a /\ a <= b ∨ DX a b = b /\ b <= a := by unfold DX; split <;> omega
def HulIs (h : Hul) (S : Span -> Prop) : Prop := (h.m = true -> (∃ s, S s /\ s.lo = h.s.lo) /\ ∃ s, S s /\ s.hi = h.s.hi) /\ ∀ s, S s -> h.m = true /\ h.s.lo <= s.lo /\ s.hi <= h.s.hi
theorem HulIs.zero {S : Span -> Prop} (h : ∀ s, ¬ S s) : HulIs zHul S := ⟨λ h => (by cases h), λ s hs => absurd hs (h s)⟩
theorem HulIs.ext {h : Hul} {S T : Span -> Prop} (hs : HulIs h S) (e : ∀ s, S s ↔ T s) : HulIs h T :=
 ⟨λ hm => let ⟨⟨a, a1, a2⟩, b, b1, b2⟩ := hs.1 hm; ⟨⟨a, (e a).1 a1, a2⟩, b, (e b).1 b1, b2⟩, λ s q => hs.2 s ((e s).2 q)⟩
theorem HulIs.add {h : Hul} {S : Span -> Prop} (hs : HulIs h S) (x : Span) : HulIs (KG h x) λ s => S s ∨ s = x := by
 cases hm : h.m with
 | false =>
  have no : ∀ s, ¬ S s := λ s q => by have := (hs.2 s q).1; rw [hm] at this; cases this
  have e : KG h x = ⟨x, true⟩ := by unfold KG; rw [hm]; rfl
  rw [e]
  exact ⟨λ _ => ⟨⟨x, .inr rfl, rfl⟩, x, .inr rfl, rfl⟩, λ s q => q.elim (λ q => absurd q (no s)) λ q => by subst q; exact ⟨rfl, Int.le_refl _, Int.le_refl _⟩⟩
 | true =>
  have e : KG h x = ⟨⟨DX x.lo h.s.lo, AY x.hi h.s.hi⟩, true⟩ := by unfold KG; rw [hm]; rfl
  obtain ⟨⟨a, a1, a2⟩, b, b1, b2⟩ := hs.1 hm
  have m1 := ANN x.lo h.s.lo
  have m2 := Yt x.hi h.s.hi
  rw [e]
  refine ⟨λ _ => ⟨?_, ?_⟩, λ s q => ⟨rfl, ?_, ?_⟩⟩
  ·show ∃ s, (S s ∨ s = x) /\ s.lo = DX x.lo h.s.lo
   rcases BWF x.lo h.s.lo with ⟨q, _⟩ | ⟨q, _⟩ <;> rw [q]
   ·exact ⟨x, .inr rfl, rfl⟩
   ·exact ⟨a, .inl a1, a2⟩
  ·show ∃ s, (S s ∨ s = x) /\ s.hi = AY x.hi h.s.hi
   rcases BAU x.hi h.s.hi with ⟨q, _⟩ | ⟨q, _⟩ <;> rw [q]
   ·exact ⟨x, .inr rfl, rfl⟩
   ·exact ⟨b, .inl b1, b2⟩
  ·show DX x.lo h.s.lo <= s.lo
   rcases q with q | q
   ·have := (hs.2 s q).2; omega
   ·subst q; exact m1.1
  ·show s.hi <= AY x.hi h.s.hi
   rcases q with q | q
   ·have := (hs.2 s q).2; omega
   ·subst q; exact m2.1
theorem HulIs.who {h : Hul} {S : Span -> Prop} (hs : HulIs h S) : (∃ s, S s) /\ (DS h).2 = 0 /\ (DS h).1 = h.s /\ h.m = true ∨ (∀ s, ¬ S s) /\ DS h = (⟨0, 0⟩, 5) := by
 cases hm : h.m with
 | true =>
  obtain ⟨⟨a, a1, _⟩, _⟩ := hs.1 hm
  exact .inl ⟨⟨a, a1⟩, by unfold DS; rw [hm]; rfl, by unfold DS; rw [hm]; rfl, rfl⟩
 | false => exact .inr ⟨λ s q => (by have := (hs.2 s q).1; rw [hm] at this; cases this), by unfold DS; rw [hm]; rfl⟩
theorem BWK {a : CZ} (h : ChOk a.c) (hr : AM a = 0) {l : List Span} (hl : l.length = a.c.ms.length) (hb : ∀ i, i < a.c.ms.length -> YM 1000000000 (gD l i)) {Q : Nat -> Int -> Prop} (hq : ∀ i, i < a.c.ms.length -> ∀ x, (gD l i).has x ↔ (gD (CB a) i).has x /\ Q i x) : (KF (AH a) l).all IL = true ↔ ∃ u, TrC a.c (AH a).sp u /\ ∀ i, i < a.c.ms.length -> Q i (u i) := by
 have hm := h.m
 have b1 : gpOk (DZ (AH a)) (a.c.ms.length - 1) := AOA (w := AH a) h
 have b2 : ∀ g, g < a.c.ms.length - 1 -> (DZ (AH a) g).lo <= (DZ (AH a) g).hi := APC (w := AH a) h
 rw [BXJ (by omega) (by omega) (λ i hi => hb i (by omega)) (by rw [hl]; exact b1) (by rw [hl]; exact b2), hl]
 constructor
 ·rintro ⟨u, hu⟩
  refine ⟨u, ⟨λ i hi => ?_, λ k hk => ?_⟩, λ i hi => ((hq i hi _).1 (hu.at_ i (by omega))).2⟩
  ·obtain ⟨v, v1, v2⟩ := (gT h hr (by omega)).1 ((hq i (by omega) _).1 (hu.at_ i hi)).1
   have := v1.note (i := i) (by omega)
   rw [v2] at this; exact this
  ·have := hu.gap k hk
   rw [VO (w := AH a) h (by show k + 1 < a.c.ms.length; omega)] at this; exact this
 ·rintro ⟨u, hu, uq⟩
  refine ⟨u, λ i hi => (hq i (by omega) _).2 ⟨(gT h hr (by omega)).2 ⟨u, hu, rfl⟩, uq i (by omega)⟩, λ k hk => ?_⟩
  have := hu.gap k hk
  rw [VO (w := AH a) h (by show k + 1 < a.c.ms.length; omega)]; exact this
theorem TrC.bd {c : Cht} (h : ChOk c) {sp : Nat -> Bool} {u : Nat -> Int} (hu : TrC c sp u) {i : Nat} (hi : i < c.ms.length) : -100000000 <= u i /\ u i <= 100000000 := by
 have n := hu.note hi
 have b := (C7 h (i : Int)).1
 unfold YM at b
 unfold Span.has at n
 omega
theorem TrC.inc {c : Cht} (h : ChOk c) {sp : Nat -> Bool} {u : Nat -> Int} (hu : TrC c sp u) {g : Nat} (hg : g + 1 < c.ms.length) : u g < u (g + 1) := by
 have a := (hu.gap g (by omega)).1
 have b := (h.gap sp hg).1
 have a : c.p.lo * KJ c g <= u (g + 1) - u g := a
 omega
theorem TrC.lt {c : Cht} (h : ChOk c) {sp : Nat -> Bool} {u : Nat -> Int} (hu : TrC c sp u) {i : Nat} : ∀ {j : Nat}, i < j -> j < c.ms.length -> u i < u j
 | j + 1, hij, hj => by
  have := hu.inc h hj
  rcases Nat.lt_or_ge i j with q | q
  ·have := hu.lt h q (by omega); omega
  ·obtain rfl : i = j := by omega
   exact this
theorem TrC.le {c : Cht} (h : ChOk c) {sp : Nat -> Bool} {u : Nat -> Int} (hu : TrC c sp u) {i j : Nat} (hij : i <= j) (hj : j < c.ms.length) : u i <= u j := by
 rcases Nat.lt_or_ge i j with q | q
 ·exact Int.le_of_lt (hu.lt h q hj)
 ·obtain rfl : i = j := by omega
  exact Int.le_refl _
theorem Zj {c : Cht} {i : Nat} (hi : i < c.ms.length) : gD (stgL c) i = FU c i := BK _ _ _ hi
def StS (a : CZ) (t : Int) (s : Span) : Prop := ∃ u, TrC a.c (AH a).sp u /\ ((∃ i, i < a.c.ms.length /\ u i = t /\ s = gD (stgL a.c) i) ∨ ∃ g, g + 1 < a.c.ms.length /\ (u g <= t - 1 /\ t + 1 <= u (g + 1)) /\ (s = gD (stgL a.c) g ∨ s = gD (stgL a.c) (g + 1)))
theorem BNG (a : CZ) (t : Int) : ∀ k, HulIs (GS a t k) λ s => ∃ i, i < k /\ (gD (CB a) i).has t /\ s = gD (stgL a.c) i
 | 0 => HulIs.zero λ s ⟨i, h, _⟩ => absurd h (Nat.not_lt_zero _)
 | k + 1 => by
  have ih := BNG a t k
  show HulIs (bif GT t (gD (CB a) k).lo (gD (CB a) k).hi then KG (GS a t k) (gD (stgL a.c) k) else GS a t k) _
  cases hi : GT t (gD (CB a) k).lo (gD (CB a) k).hi with
  | true =>
   refine (ih.add (gD (stgL a.c) k)).ext λ s => ⟨?_, ?_⟩
   ·rintro (⟨i, h1, h2⟩ | h)
    ·exact ⟨i, by omega, h2⟩
    ·exact ⟨k, Nat.lt_succ_self _, CJ.1 hi, h⟩
   ·rintro ⟨i, h1, h2, h3⟩
    rcases Nat.lt_or_ge i k with q | q
    ·exact .inl ⟨i, q, h2, h3⟩
    ·obtain rfl : i = k := by omega
     exact .inr h3
  | false =>
   refine ih.ext λ s => ⟨λ ⟨i, h1, h2⟩ => ⟨i, by omega, h2⟩, ?_⟩
   rintro ⟨i, h1, h2, h3⟩
   rcases Nat.lt_or_ge i k with q | q
   ·exact ⟨i, q, h2, h3⟩
   ·obtain rfl : i = k := by omega
    rw [CJ.2 h2] at hi; cases hi
theorem CDF (a : CZ) (t : Int) : ∀ k, HulIs (IS a t k) λ s => (∃ i, i < a.c.ms.length /\ (gD (CB a) i).has t /\ s = gD (stgL a.c) i) ∨ ∃ g, g < k /\ Uv a t g = true /\ (s = gD (stgL a.c) g ∨ s = gD (stgL a.c) (g + 1))
 | 0 => (BNG a t a.c.ms.length).ext λ s => ⟨.inl, λ h => h.elim id λ ⟨g, h, _⟩ => absurd h (Nat.not_lt_zero _)⟩
 | k + 1 => by
  have ih := CDF a t k
  show HulIs (bif Uv a t k then KG (KG (IS a t k) (gD (stgL a.c) k)) (gD (stgL a.c) (k + 1)) else IS a t k) _
  cases hi : Uv a t k with
  | true =>
   refine ((ih.add (gD (stgL a.c) k)).add (gD (stgL a.c) (k + 1))).ext λ s => ⟨?_, ?_⟩
   ·rintro (((h | ⟨g, h1, h2⟩) | h) | h)
    ·exact .inl h
    ·exact .inr ⟨g, by omega, h2⟩
    ·exact .inr ⟨k, Nat.lt_succ_self _, hi, .inl h⟩
    ·exact .inr ⟨k, Nat.lt_succ_self _, hi, .inr h⟩
   ·rintro (h | ⟨g, h1, h2, h3⟩)
    ·exact .inl (.inl (.inl h))
    ·rcases Nat.lt_or_ge g k with q | q
     ·exact .inl (.inl (.inr ⟨g, q, h2, h3⟩))
     ·obtain rfl : g = k := by omega
      rcases h3 with h3 | h3
      ·exact .inl (.inr h3)
      ·exact .inr h3
  | false =>
   refine ih.ext λ s => ⟨λ h => h.elim .inl λ ⟨g, h1, h2⟩ => .inr ⟨g, by omega, h2⟩, ?_⟩
   rintro (h | ⟨g, h1, h2, h3⟩)
   ·exact .inl h
   ·rcases Nat.lt_or_ge g k with q | q
    ·exact .inr ⟨g, q, h2, h3⟩
    ·obtain rfl : g = k := by omega
     rw [h2] at hi; cases hi
theorem BDC {a : CZ} (h : ChOk a.c) (hr : AM a = 0) (t : Int) : HulIs (Dd ⟨a, t⟩) (StS a t) := by
 have hm := h.m
 have one : ∀ s, (∃ i, i < a.c.ms.length /\ (gD (CB a) i).has t /\ s = gD (stgL a.c) i) ↔ ∃ u, TrC a.c (AH a).sp u /\ ∃ i, i < a.c.ms.length /\ u i = t /\ s = gD (stgL a.c) i := λ s => by
  constructor
  ·rintro ⟨i, h1, h2, h3⟩
   obtain ⟨u, u1, u2⟩ := (gT h hr h1).1 h2
   exact ⟨u, u1, i, h1, u2, h3⟩
  ·rintro ⟨u, u1, i, h1, u2, h3⟩
   exact ⟨i, h1, (gT h hr h1).2 ⟨u, u1, u2⟩, h3⟩
 unfold Dd
 cases hi : GT t (-100000000) 100000000 with
 | false =>
  refine (BNG a t a.c.ms.length).ext λ s => ?_
  rw [one s]
  constructor
  ·rintro ⟨u, u1, u2⟩; exact ⟨u, u1, .inl u2⟩
  ·rintro ⟨u, u1, u2 | ⟨g, g1, ⟨g2, g3⟩, _⟩⟩
   ·exact ⟨u, u1, u2⟩
   ·have b1 := u1.bd h (i := g) (by omega)
    have b2 := u1.bd h g1
    rw [CJ.2 (by omega)] at hi; cases hi
 | true =>
  have ht := CJ.1 hi
  refine (CDF a t (a.c.ms.length - 1)).ext λ s => ?_
  rw [one s]
  constructor
  ·rintro (⟨u, u1, u2⟩ | ⟨g, g1, g2, g3⟩)
   ·exact ⟨u, u1, .inl u2⟩
   ·obtain ⟨u, u1, u2⟩ := (CCP h hr (show g + 1 < _ by omega) ht).1 g2
    exact ⟨u, u1, .inr ⟨g, by omega, u2, g3⟩⟩
  ·rintro ⟨u, u1, u2 | ⟨g, g1, g2, g3⟩⟩
   ·exact .inl ⟨u, u1, u2⟩
   ·exact .inr ⟨g, by omega, (CCP h hr g1 ht).2 ⟨u, u1, g2⟩, g3⟩
theorem APG {l : List Span} {k : Nat} {a b : Int} {i : Nat} (hi : i < l.length) (hk : k <= l.length) : gD (Fq l (k : Int) a b) i = ⟨bif decide (i = k) then AY (gD l i).lo b else (gD l i).lo, bif decide (i + 1 = k) then DX (gD l i).hi a else (gD l i).hi⟩ := by
 unfold Fq
 rw [BK _ _ _ hi]
 unfold parM
 have e1 : ((k : Int)).toNat = k := by omega
 rw [e1]
 congr 1
 ·by_cases q : i = k
  ·rw [decide_eq_true q, decide_eq_true (show (k : Int) < l.length by omega)]; rfl
  ·rw [decide_eq_false q]; rfl
 ·by_cases q : i + 1 = k
  ·rw [decide_eq_true q, decide_eq_true (show (k : Int) > 0 by omega), decide_eq_true (show i = ((k : Int) - 1).toNat by omega)]; rfl
  ·rw [decide_eq_false q]
   have : (decide ((k : Int) > 0) && decide (i = ((k : Int) - 1).toNat)) = false := by
    by_cases q1 : (k : Int) > 0
    ·have : ¬ i = ((k : Int) - 1).toNat := by omega
     rw [decide_eq_false this, Bool.and_false]
    ·rw [decide_eq_false q1]; rfl
   rw [this]
theorem CCC {b : Bool} {p q v : Int} : (bif b then AY p q else p) <= v ↔ p <= v /\ (b = true -> q <= v) := by
 cases b
 ·exact ⟨λ h => ⟨h, λ h => (by cases h)⟩, λ h => h.1⟩
 ·exact maxI_le.trans ⟨λ h => ⟨h.1, λ _ => h.2⟩, λ h => ⟨h.1, h.2 rfl⟩⟩
theorem CBF {b : Bool} {p q v : Int} : v <= (bif b then DX p q else p) ↔ v <= p /\ (b = true -> v <= q) := by
 cases b
 ·exact ⟨λ h => ⟨h, λ h => (by cases h)⟩, λ h => h.1⟩
 ·exact le_minI.trans ⟨λ h => ⟨h.1, λ _ => h.2⟩, λ h => ⟨h.1, h.2 rfl⟩⟩
theorem CUF {l : List Span} {a b i : Nat} {x y : Int} (hx : -100000001 <= x /\ x <= 100000001) (hy : -100000001 <= y /\ y <= 100000001) (hi : i < l.length) (ha : a < l.length) (hb : b < l.length) (hb2 : b < 100000) (v : Int) : (gD (winL l a b x y) i).has v ↔ (gD l i).has v /\ (i = a -> x <= v) /\ (i + 1 = a -> v <= x - 1) /\ (i = b + 1 -> y + 1 <= v) /\ (i = b -> v <= y) := by
 have e1 : wr (x - 1) = x - 1 := CP (by omega) (by omega)
 have e2 : wr ((b : Int) + 1) = ((b + 1 : Nat) : Int) := FE (by omega)
 have e3 : wr (y + 1) = y + 1 := CP (by omega) (by omega)
 unfold winL
 rw [e1, e2, e3, APG (by rw [GP]; exact hi) (by rw [GP]; omega), APG hi (by omega)]
 unfold Span.has
 show (bif decide (i = b + 1) then AY (bif decide (i = a) then AY (gD l i).lo x else (gD l i).lo) (y + 1) else (bif decide (i = a) then AY (gD l i).lo x else (gD l i).lo)) <= v /\ v <= (bif decide (i + 1 = b + 1) then DX (bif decide (i + 1 = a) then DX (gD l i).hi (x - 1) else (gD l i).hi) y else (bif decide (i + 1 = a) then DX (gD l i).hi (x - 1) else (gD l i).hi)) ↔ _
 rw [CCC, CCC, CBF, CBF]
 simp only [decide_eq_true_eq]
 omega
theorem CVU {l : List Span} {a b i : Nat} {x y : Int} (hx : -100000001 <= x /\ x <= 100000001) (hy : -100000001 <= y /\ y <= 100000001) (hi : i < l.length) (ha : a < l.length) (hb : b < l.length) (hb2 : b < 100000) (hl : YM 100000000 (gD l i)) : YM 1000000000 (gD (winL l a b x y) i) := by
 have e1 : wr (x - 1) = x - 1 := CP (by omega) (by omega)
 have e2 : wr ((b : Int) + 1) = ((b + 1 : Nat) : Int) := FE (by omega)
 have e3 : wr (y + 1) = y + 1 := CP (by omega) (by omega)
 unfold winL
 rw [e1, e2, e3, APG (by rw [GP]; exact hi) (by rw [GP]; omega), APG hi (by omega)]
 unfold YM at *
 obtain ⟨⟨l1, l2⟩, l3, l4⟩ := hl
 have m1 : ∀ (b : Bool) (p q : Int), -100000002 <= p /\ p <= 100000002 -> -100000002 <= q /\ q <= 100000002 -> -100000002 <= (bif b then AY p q else p) /\ (bif b then AY p q else p) <= 100000002 := λ b p q hp hq => by
  cases b
  ·exact hp
  ·exact CPA hp hq
 have m2 : ∀ (b : Bool) (p q : Int), -100000002 <= p /\ p <= 100000002 -> -100000002 <= q /\ q <= 100000002 -> -100000002 <= (bif b then DX p q else p) /\ (bif b then DX p q else p) <= 100000002 := λ b p q hp hq => by
  cases b
  ·exact hp
  ·show _ <= DX p q /\ DX p q <= _
   unfold DX; split <;> omega
 have a1 := m1 (decide (i = a)) (gD l i).lo x (by omega) (by omega)
 have a2 := m1 (decide (i = b + 1)) _ (y + 1) a1 (by omega)
 have b1 := m2 (decide (i + 1 = a)) (gD l i).hi (x - 1) (by omega) (by omega)
 have b2 := m2 (decide (i + 1 = b + 1)) _ y b1 (by omega)
 exact ⟨⟨Int.le_trans (by decide) a2.1, Int.le_trans a2.2 (by decide)⟩, Int.le_trans (by decide) b2.1, Int.le_trans b2.2 (by decide)⟩
def inW (c : Cht) (u : Nat -> Int) (f t : Int) (a b : Nat) : Prop := ∀ i, i < c.ms.length -> (f <= u i /\ u i <= t ↔ a <= i /\ i <= b)
theorem CCL {x : CZ2} (h : ChOk x.a.c) (hr : AM x.a = 0) {i j : Nat} (hij : i <= j) (hj : j < x.a.c.ms.length) (hft : Jy x <= Jz x) : Ju x i j = true ↔ ∃ u, TrC x.a.c (AH x.a).sp u /\ inW x.a.c u x.f x.t i j := by
 have hm := h.m
 have tl := Fx hr
 have mx := Yt x.f (-100000001)
 have mn := ANN x.t 100000001
 have mx2 := BAU x.f (-100000001)
 have mn2 := BWF x.t 100000001
 have hF : -100000001 <= Jy x /\ Jy x <= 100000001 := by unfold Jy Jz at *; omega
 have hT : -100000001 <= Jz x /\ Jz x <= 100000001 := by unfold Jy Jz at *; omega
 unfold Ju
 rw [BWK h hr (by rw [BWO, tl]) (λ k hk => CVU hF hT (by omega) (by omega) (by omega) (by omega) (CLL h hr hk)) (λ k hk v => CUF hF hT (by omega) (by omega) (by omega) (by omega) v)]
 constructor
 ·rintro ⟨u, u1, u2⟩
  refine ⟨u, u1, λ k hk => ?_⟩
  have bk := u1.bd h hk
  have a1 := (u2 i (by omega)).1 rfl
  have a2 := (u2 j hj).2.2.2 rfl
  constructor
  ·rintro ⟨k1, k2⟩
   constructor
   ·refine Classical.byContradiction λ q => ?_
    have l1 := u1.le h (show k <= i - 1 by omega) (show i - 1 < _ by omega)
    have l2 := (u2 (i - 1) (by omega)).2.1 (by omega)
    unfold Jy at *; omega
   ·refine Classical.byContradiction λ q => ?_
    have l1 := u1.le h (show j + 1 <= k by omega) hk
    have l2 := (u2 (j + 1) (by omega)).2.2.1 rfl
    unfold Jz at *; omega
  ·rintro ⟨k1, k2⟩
   have l1 := u1.le h k1 hk
   have l2 := u1.le h k2 hj
   unfold Jy Jz at *; omega
 ·rintro ⟨u, u1, u2⟩
  refine ⟨u, u1, λ k hk => ?_⟩
  have bk := u1.bd h hk
  have w := u2 k hk
  refine ⟨λ e => ?_, λ e => ?_, λ e => ?_, λ e => ?_⟩
  ·have := w.2 (by omega); unfold Jy; exact maxI_le.2 ⟨this.1, by omega⟩
  ·have l := u1.lt h (show k < i by omega) (by omega)
   have w2 := (u2 i (by omega)).2 (by omega)
   have : ¬ (x.f <= u k /\ u k <= x.t) := λ q => by have := w.1 q; omega
   unfold Jy; omega
  ·have l := u1.lt h (show j < k by omega) hk
   have w2 := (u2 j hj).2 (by omega)
   have : ¬ (x.f <= u k /\ u k <= x.t) := λ q => by have := w.1 q; omega
   unfold Jz; omega
  ·have := w.2 (by omega); unfold Jz; exact le_minI.2 ⟨this.2, by omega⟩
def PkS (x : CZ2) (s : Span) : Prop := ∃ u, TrC x.a.c (AH x.a).sp u /\ ∃ i j, i <= j /\ j < x.a.c.ms.length /\ inW x.a.c u x.f x.t i j /\ s = ⟨gLo (IR x i j), gHi (IR x i j)⟩
theorem CJG (x : CZ2) (a : Nat) {h : Hul} {S : Span -> Prop} (hs : HulIs h S) : ∀ k, HulIs (pkI x a h k) λ s => S s ∨ ∃ j, j < k /\ Ju x a (a + j) = true /\ s = ⟨gLo (IR x a (a + j)), gHi (IR x a (a + j))⟩
 | 0 => hs.ext λ s => ⟨.inl, λ h => h.elim id λ ⟨j, h, _⟩ => absurd h (Nat.not_lt_zero _)⟩
 | k + 1 => by
  have ih := CJG x a hs k
  show HulIs (bif Ju x a (a + k) then KG (pkI x a h k) ⟨gLo (IR x a (a + k)), gHi (IR x a (a + k))⟩ else pkI x a h k) _
  cases hi : Ju x a (a + k) with
  | true =>
   refine (ih.add _).ext λ s => ⟨?_, ?_⟩
   ·rintro ((q | ⟨j, h1, h2⟩) | q)
    ·exact .inl q
    ·exact .inr ⟨j, by omega, h2⟩
    ·exact .inr ⟨k, Nat.lt_succ_self _, hi, q⟩
   ·rintro (q | ⟨j, h1, h2, h3⟩)
    ·exact .inl (.inl q)
    ·rcases Nat.lt_or_ge j k with r | r
     ·exact .inl (.inr ⟨j, r, h2, h3⟩)
     ·obtain rfl : j = k := by omega
      exact .inr h3
  | false =>
   refine ih.ext λ s => ⟨λ q => q.elim .inl λ ⟨j, h1, h2⟩ => .inr ⟨j, by omega, h2⟩, ?_⟩
   rintro (q | ⟨j, h1, h2, h3⟩)
   ·exact .inl q
   ·rcases Nat.lt_or_ge j k with r | r
    ·exact .inr ⟨j, r, h2, h3⟩
    ·obtain rfl : j = k := by omega
     rw [h2] at hi; cases hi
theorem CHC (x : CZ2) (hft : Jy x <= Jz x) : ∀ k, HulIs (Jx x k) λ s => ∃ a j, a < k /\ j < x.a.c.ms.length - a /\ Ju x a (a + j) = true /\ s = ⟨gLo (IR x a (a + j)), gHi (IR x a (a + j))⟩
 | 0 => HulIs.zero λ s ⟨a, j, h, _⟩ => absurd h (Nat.not_lt_zero _)
 | k + 1 => by
  have ih := CJG x k (CHC x hft k) (x.a.c.ms.length - k)
  show HulIs (bif decide (Jz x >= Jy x) then pkI x k (Jx x k) (x.a.c.ms.length - k) else Jx x k) _
  rw [decide_eq_true hft]
  refine ih.ext λ s => ⟨?_, ?_⟩
  ·rintro (⟨a, j, h1, h2⟩ | ⟨j, h1, h2⟩)
   ·exact ⟨a, j, by omega, h2⟩
   ·exact ⟨k, j, Nat.lt_succ_self _, h1, h2⟩
  ·rintro ⟨a, j, h1, h2, h3⟩
   rcases Nat.lt_or_ge a k with r | r
   ·exact .inl ⟨a, j, r, h2, h3⟩
   ·obtain rfl : a = k := by omega
    exact .inr ⟨j, h2, h3⟩
theorem CKL (x : CZ2) (hft : ¬ Jy x <= Jz x) : ∀ k, Jx x k = zHul
 | 0 => rfl
 | k + 1 => by
  show (bif decide (Jz x >= Jy x) then pkI x k (Jx x k) (x.a.c.ms.length - k) else Jx x k) = zHul
  rw [decide_eq_false hft]; exact CKL x hft k
theorem BOW {x : CZ2} (h : ChOk x.a.c) (hr : AM x.a = 0) (ht : x.f <= x.t) : HulIs (Jx x x.a.c.ms.length) (PkS x) := by
 by_cases hft : Jy x <= Jz x
 ·refine (CHC x hft _).ext λ s => ⟨?_, ?_⟩
  ·rintro ⟨a, j, h1, h2, h3, h4⟩
   obtain ⟨u, u1, u2⟩ := (CCL h hr (show a <= a + j by omega) (by omega) hft).1 h3
   exact ⟨u, u1, a, a + j, by omega, by omega, u2, h4⟩
  ·rintro ⟨u, u1, i, j, h1, h2, h3, h4⟩
   refine ⟨i, j - i, by omega, by omega, ?_, ?_⟩
   ·rw [show i + (j - i) = j by omega]; exact (CCL h hr h1 h2 hft).2 ⟨u, u1, h3⟩
   ·rw [show i + (j - i) = j by omega]; exact h4
 ·rw [CKL x hft]
  refine HulIs.zero ?_
  rintro s ⟨u, u1, i, j, h1, h2, h3, h4⟩
  have b := u1.bd h (show i < _ by omega)
  have w := (h3 i (by omega)).2 ⟨Nat.le_refl _, h1⟩
  refine hft ?_
  exact Int.le_trans (maxI_le.2 ⟨w.1, by omega⟩) (le_minI.2 ⟨w.2, by omega⟩)
theorem AFB : ∀ (l : List Int) (a : Int), a <= l.foldl AY a /\ (∀ x ∈ l, x <= l.foldl AY a) /\ (l.foldl AY a = a ∨ l.foldl AY a ∈ l)
 | [], a => ⟨Int.le_refl _, λ x h => (by cases h), .inl rfl⟩
 | y :: l, a => by
  obtain ⟨h1, h2, h3⟩ := AFB l (AY a y)
  have m := Yt a y
  show a <= l.foldl AY (AY a y) /\ (∀ x ∈ y :: l, x <= l.foldl AY (AY a y)) /\ (l.foldl AY (AY a y) = a ∨ l.foldl AY (AY a y) ∈ y :: l)
  refine ⟨by omega, λ x hx => ?_, ?_⟩
  ·rcases List.mem_cons.1 hx with e | hx
   ·subst e; omega
   ·exact h2 x hx
  ·rcases h3 with h3 | h3
   ·rw [h3]
    rcases BAU a y with ⟨q, _⟩ | ⟨q, _⟩
    ·exact .inl q
    ·rw [q]; exact .inr (List.mem_cons_self ..)
   ·exact .inr (List.mem_cons_of_mem _ h3)
theorem CVY {l : List Span} (h : 0 < l.length) : (∀ i, i < l.length -> (gD l i).lo <= gLo l) /\ ∃ i, i < l.length /\ gLo l = (gD l i).lo := by
 obtain ⟨h1, h2, h3⟩ := AFB (l.map (·.lo)) (gD l 0).lo
 refine ⟨λ i hi => h2 _ (List.mem_map.2 ⟨gD l i, CS hi, rfl⟩), ?_⟩
 rcases h3 with h3 | h3
 ·exact ⟨0, h, h3⟩
 ·obtain ⟨s, s1, s2⟩ := List.mem_map.1 h3
  obtain ⟨i, i1, i2⟩ := IQ s1
  exact ⟨i, i1, by rw [i2]; exact s2.symm⟩
theorem CVH {l : List Span} (h : 0 < l.length) : (∀ i, i < l.length -> (gD l i).hi <= gHi l) /\ ∃ i, i < l.length /\ gHi l = (gD l i).hi := by
 obtain ⟨h1, h2, h3⟩ := AFB (l.map (·.hi)) (gD l 0).hi
 refine ⟨λ i hi => h2 _ (List.mem_map.2 ⟨gD l i, CS hi, rfl⟩), ?_⟩
 rcases h3 with h3 | h3
 ·exact ⟨0, h, h3⟩
 ·obtain ⟨s, s1, s2⟩ := List.mem_map.1 h3
  obtain ⟨i, i1, i2⟩ := IQ s1
  exact ⟨i, i1, by rw [i2]; exact s2.symm⟩
theorem Jj (x : CZ2) (i j : Nat) : (IR x i j).length = j + 1 - i := rng_length _ _
theorem BQV (x : CZ2) {i j k : Nat} (h : k < j + 1 - i) : gD (IR x i j) k = gD (stgL x.a.c) (i + k) := BK _ _ _ h
end Go.Bal
