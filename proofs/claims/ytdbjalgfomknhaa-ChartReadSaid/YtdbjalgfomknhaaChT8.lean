/- Package chart: what Stage, Peak and First return, by truths (no program in sight). -/
import Derived.Test.YtdbjalgfomknhaaChT4
import Derived.Test.YtdbjalgfomknhaaChJ
import Derived.Test.YtdbjalgfomknhaaChO
set_option linter.unusedVariables false
set_option linter.unusedSimpArgs false
namespace Go.Bal
open Go Go.Sym Go.Proofs
theorem AFC (a b : Int) : GV a b = a /\ b <= a ∨ GV a b = b /\ a <= b := by unfold GV; split <;> omega
theorem AQF (a b : Int) : PV a b = a /\ a <= b ∨ PV a b = b /\ b <= a := by unfold PV; split <;> omega
def HulIs (h : Hul) (S : Span -> Prop) : Prop := (h.m = true -> (∃ s, S s /\ s.lo = h.s.lo) /\ ∃ s, S s /\ s.hi = h.s.hi) /\ ∀ s, S s -> h.m = true /\ h.s.lo <= s.lo /\ s.hi <= h.s.hi
theorem HulIs.zero {S : Span -> Prop} (h : ∀ s, ¬ S s) : HulIs zHul S := ⟨λ h => (by cases h), λ s hs => absurd hs (h s)⟩
theorem HulIs.ext {h : Hul} {S T : Span -> Prop} (hs : HulIs h S) (e : ∀ s, S s ↔ T s) : HulIs h T :=
 ⟨λ hm => let ⟨⟨a, a1, a2⟩, b, b1, b2⟩ := hs.1 hm; ⟨⟨a, (e a).1 a1, a2⟩, b, (e b).1 b1, b2⟩, λ s q => hs.2 s ((e s).2 q)⟩
theorem HulIs.add {h : Hul} {S : Span -> Prop} (hs : HulIs h S) (x : Span) : HulIs (Cz h x) λ s => S s ∨ s = x := by
 cases hm : h.m with
 | false =>
  have no : ∀ s, ¬ S s := λ s q => by have := (hs.2 s q).1; rw [hm] at this; cases this
  have e : Cz h x = ⟨x, true⟩ := by unfold Cz; rw [hm]; rfl
  rw [e]
  exact ⟨λ _ => ⟨⟨x, .inr rfl, rfl⟩, x, .inr rfl, rfl⟩, λ s q => q.elim (λ q => absurd q (no s)) λ q => by subst q; exact ⟨rfl, Int.le_refl _, Int.le_refl _⟩⟩
 | true =>
  have e : Cz h x = ⟨⟨PV x.lo h.s.lo, GV x.hi h.s.hi⟩, true⟩ := by unfold Cz; rw [hm]; rfl
  obtain ⟨⟨a, a1, a2⟩, b, b1, b2⟩ := hs.1 hm
  have m1 := ADK x.lo h.s.lo
  have m2 := uN x.hi h.s.hi
  rw [e]
  refine ⟨λ _ => ⟨?_, ?_⟩, λ s q => ⟨rfl, ?_, ?_⟩⟩
  ·show ∃ s, (S s ∨ s = x) /\ s.lo = PV x.lo h.s.lo
   rcases AQF x.lo h.s.lo with ⟨q, _⟩ | ⟨q, _⟩ <;> rw [q]
   ·exact ⟨x, .inr rfl, rfl⟩
   ·exact ⟨a, .inl a1, a2⟩
  ·show ∃ s, (S s ∨ s = x) /\ s.hi = GV x.hi h.s.hi
   rcases AFC x.hi h.s.hi with ⟨q, _⟩ | ⟨q, _⟩ <;> rw [q]
   ·exact ⟨x, .inr rfl, rfl⟩
   ·exact ⟨b, .inl b1, b2⟩
  ·show PV x.lo h.s.lo <= s.lo
   rcases q with q | q
   ·have := (hs.2 s q).2; omega
   ·subst q; exact m1.1
  ·show s.hi <= GV x.hi h.s.hi
   rcases q with q | q
   ·have := (hs.2 s q).2; omega
   ·subst q; exact m2.1
theorem HulIs.who {h : Hul} {S : Span -> Prop} (hs : HulIs h S) : (∃ s, S s) /\ (Kt h).2 = 0 /\ (Kt h).1 = h.s /\ h.m = true ∨ (∀ s, ¬ S s) /\ Kt h = (⟨0, 0⟩, 5) := by
 cases hm : h.m with
 | true =>
  obtain ⟨⟨a, a1, _⟩, _⟩ := hs.1 hm
  exact .inl ⟨⟨a, a1⟩, by unfold Kt; rw [hm]; rfl, by unfold Kt; rw [hm]; rfl, rfl⟩
 | false => exact .inr ⟨λ s q => (by have := (hs.2 s q).1; rw [hm] at this; cases this), by unfold Kt; rw [hm]; rfl⟩
theorem ARB {a : CZ} (h : ChOk a.c) (hr : FO a = 0) {l : List Span} (hl : l.length = a.c.ms.length) (hb : ∀ i, i < a.c.ms.length -> wB 1000000000 (gD l i)) {Q : Nat -> Int -> Prop} (hq : ∀ i, i < a.c.ms.length -> ∀ x, (gD l i).has x ↔ (gD (UD a) i).has x /\ Q i x) : (Ry (JB a) l).all Ps = true ↔ ∃ u, TrC a.c (JB a).sp u /\ ∀ i, i < a.c.ms.length -> Q i (u i) := by
 have hm := h.m
 have b1 : gpOk (SS (JB a)) (a.c.ms.length - 1) := ADD (w := JB a) h
 have b2 : ∀ g, g < a.c.ms.length - 1 -> (SS (JB a) g).lo <= (SS (JB a) g).hi := ADB (w := JB a) h
 rw [ATO (by omega) (by omega) (λ i hi => hb i (by omega)) (by rw [hl]; exact b1) (by rw [hl]; exact b2), hl]
 constructor
 ·rintro ⟨u, hu⟩
  refine ⟨u, ⟨λ i hi => ?_, λ k hk => ?_⟩, λ i hi => ((hq i hi _).1 (hu.at_ i (by omega))).2⟩
  ·obtain ⟨v, v1, v2⟩ := (wK h hr (by omega)).1 ((hq i (by omega) _).1 (hu.at_ i hi)).1
   have := v1.note (i := i) (by omega)
   rw [v2] at this; exact this
  ·have := hu.gap k hk
   rw [Po (w := JB a) h (by show k + 1 < a.c.ms.length; omega)] at this; exact this
 ·rintro ⟨u, hu, uq⟩
  refine ⟨u, λ i hi => (hq i (by omega) _).2 ⟨(wK h hr (by omega)).2 ⟨u, hu, rfl⟩, uq i (by omega)⟩, λ k hk => ?_⟩
  have := hu.gap k hk
  rw [Po (w := JB a) h (by show k + 1 < a.c.ms.length; omega)]; exact this
theorem TrC.bd {c : Cht} (h : ChOk c) {sp : Nat -> Bool} {u : Nat -> Int} (hu : TrC c sp u) {i : Nat} (hi : i < c.ms.length) : -100000000 <= u i /\ u i <= 100000000 := by
 have n := hu.note hi
 have b := (L7 h (i : Int)).1
 unfold wB at b
 unfold Span.has at n
 omega
theorem TrC.inc {c : Cht} (h : ChOk c) {sp : Nat -> Bool} {u : Nat -> Int} (hu : TrC c sp u) {g : Nat} (hg : g + 1 < c.ms.length) : u g < u (g + 1) := by
 have a := (hu.gap g (by omega)).1
 have b := (h.gap sp hg).1
 have a : c.p.lo * Ke c g <= u (g + 1) - u g := a
 omega
theorem TrC.lt {c : Cht} (h : ChOk c) {sp : Nat -> Bool} {u : Nat -> Int} (hu : TrC c sp u) {i : Nat} : ∀ {j : Nat}, i < j -> j < c.ms.length -> u i < u j
 | j + 1, hij, hj => by
  have := hu.inc h hj
  rcases Nat.lt_or_ge i j with q | q
  ·have := hu.lt h q (by omega); omega
  ·obtain rfl : i = j := by omega
   exact this
theorem TrC.le {c : Cht} (h : ChOk c) {sp : Nat -> Bool} {u : Nat -> Int} (hu : TrC c sp u) {i j : Nat} (hij : i <= j) (hj : j < c.ms.length) : u i <= u j := by
 rcases Nat.lt_or_ge i j with q | q
 ·exact Int.le_of_lt (hu.lt h q hj)
 ·obtain rfl : i = j := by omega
  exact Int.le_refl _
theorem ANB {c : Cht} {i : Nat} (hi : i < c.ms.length) : gD (FK c) i = Qr c i := HM _ _ _ hi
def StS (a : CZ) (t : Int) (s : Span) : Prop := ∃ u, TrC a.c (JB a).sp u /\ ((∃ i, i < a.c.ms.length /\ u i = t /\ s = gD (FK a.c) i) ∨ ∃ g, g + 1 < a.c.ms.length /\ (u g <= t - 1 /\ t + 1 <= u (g + 1)) /\ (s = gD (FK a.c) g ∨ s = gD (FK a.c) (g + 1)))
theorem AOE (a : CZ) (t : Int) : ∀ k, HulIs (L1 a t k) λ s => ∃ i, i < k /\ (gD (UD a) i).has t /\ s = gD (FK a.c) i
 | 0 => HulIs.zero λ s ⟨i, h, _⟩ => absurd h (Nat.not_lt_zero _)
 | k + 1 => by
  have ih := AOE a t k
  show HulIs (bif TM t (gD (UD a) k).lo (gD (UD a) k).hi then Cz (L1 a t k) (gD (FK a.c) k) else L1 a t k) _
  cases hi : TM t (gD (UD a) k).lo (gD (UD a) k).hi with
  | true =>
   refine (ih.add (gD (FK a.c) k)).ext λ s => ⟨?_, ?_⟩
   ·rintro (⟨i, h1, h2⟩ | h)
    ·exact ⟨i, by omega, h2⟩
    ·exact ⟨k, Nat.lt_succ_self _, IS.1 hi, h⟩
   ·rintro ⟨i, h1, h2, h3⟩
    rcases Nat.lt_or_ge i k with q | q
    ·exact .inl ⟨i, q, h2, h3⟩
    ·obtain rfl : i = k := by omega
     exact .inr h3
  | false =>
   refine ih.ext λ s => ⟨λ ⟨i, h1, h2⟩ => ⟨i, by omega, h2⟩, ?_⟩
   rintro ⟨i, h1, h2, h3⟩
   rcases Nat.lt_or_ge i k with q | q
   ·exact ⟨i, q, h2, h3⟩
   ·obtain rfl : i = k := by omega
    rw [IS.2 h2] at hi; cases hi
theorem AYF (a : CZ) (t : Int) : ∀ k, HulIs (V3 a t k) λ s => (∃ i, i < a.c.ms.length /\ (gD (UD a) i).has t /\ s = gD (FK a.c) i) ∨ ∃ g, g < k /\ sE a t g = true /\ (s = gD (FK a.c) g ∨ s = gD (FK a.c) (g + 1))
 | 0 => (AOE a t a.c.ms.length).ext λ s => ⟨.inl, λ h => h.elim id λ ⟨g, h, _⟩ => absurd h (Nat.not_lt_zero _)⟩
 | k + 1 => by
  have ih := AYF a t k
  show HulIs (bif sE a t k then Cz (Cz (V3 a t k) (gD (FK a.c) k)) (gD (FK a.c) (k + 1)) else V3 a t k) _
  cases hi : sE a t k with
  | true =>
   refine ((ih.add (gD (FK a.c) k)).add (gD (FK a.c) (k + 1))).ext λ s => ⟨?_, ?_⟩
   ·rintro (((h | ⟨g, h1, h2⟩) | h) | h)
    ·exact .inl h
    ·exact .inr ⟨g, by omega, h2⟩
    ·exact .inr ⟨k, Nat.lt_succ_self _, hi, .inl h⟩
    ·exact .inr ⟨k, Nat.lt_succ_self _, hi, .inr h⟩
   ·rintro (h | ⟨g, h1, h2, h3⟩)
    ·exact .inl (.inl (.inl h))
    ·rcases Nat.lt_or_ge g k with q | q
     ·exact .inl (.inl (.inr ⟨g, q, h2, h3⟩))
     ·obtain rfl : g = k := by omega
      rcases h3 with h3 | h3
      ·exact .inl (.inr h3)
      ·exact .inr h3
  | false =>
   refine ih.ext λ s => ⟨λ h => h.elim .inl λ ⟨g, h1, h2⟩ => .inr ⟨g, by omega, h2⟩, ?_⟩
   rintro (h | ⟨g, h1, h2, h3⟩)
   ·exact .inl h
   ·rcases Nat.lt_or_ge g k with q | q
    ·exact .inr ⟨g, q, h2, h3⟩
    ·obtain rfl : g = k := by omega
     rw [h2] at hi; cases hi
theorem BHV {a : CZ} (h : ChOk a.c) (hr : FO a = 0) (t : Int) : HulIs (iA ⟨a, t⟩) (StS a t) := by
 have hm := h.m
 have one : ∀ s, (∃ i, i < a.c.ms.length /\ (gD (UD a) i).has t /\ s = gD (FK a.c) i) ↔ ∃ u, TrC a.c (JB a).sp u /\ ∃ i, i < a.c.ms.length /\ u i = t /\ s = gD (FK a.c) i := λ s => by
  constructor
  ·rintro ⟨i, h1, h2, h3⟩
   obtain ⟨u, u1, u2⟩ := (wK h hr h1).1 h2
   exact ⟨u, u1, i, h1, u2, h3⟩
  ·rintro ⟨u, u1, i, h1, u2, h3⟩
   exact ⟨i, h1, (wK h hr h1).2 ⟨u, u1, u2⟩, h3⟩
 unfold iA
 cases hi : TM t (-100000000) 100000000 with
 | false =>
  refine (AOE a t a.c.ms.length).ext λ s => ?_
  rw [one s]
  constructor
  ·rintro ⟨u, u1, u2⟩; exact ⟨u, u1, .inl u2⟩
  ·rintro ⟨u, u1, u2 | ⟨g, g1, ⟨g2, g3⟩, _⟩⟩
   ·exact ⟨u, u1, u2⟩
   ·have b1 := u1.bd h (i := g) (by omega)
    have b2 := u1.bd h g1
    rw [IS.2 (by omega)] at hi; cases hi
 | true =>
  have ht := IS.1 hi
  refine (AYF a t (a.c.ms.length - 1)).ext λ s => ?_
  rw [one s]
  constructor
  ·rintro (⟨u, u1, u2⟩ | ⟨g, g1, g2, g3⟩)
   ·exact ⟨u, u1, .inl u2⟩
   ·obtain ⟨u, u1, u2⟩ := (AVR h hr (show g + 1 < _ by omega) ht).1 g2
    exact ⟨u, u1, .inr ⟨g, by omega, u2, g3⟩⟩
  ·rintro ⟨u, u1, u2 | ⟨g, g1, g2, g3⟩⟩
   ·exact .inl ⟨u, u1, u2⟩
   ·exact .inr ⟨g, by omega, (AVR h hr g1 ht).2 ⟨u, u1, g2⟩, g3⟩
theorem ADO {l : List Span} {k : Nat} {a b : Int} {i : Nat} (hi : i < l.length) (hk : k <= l.length) : gD (vY l (k : Int) a b) i = ⟨bif decide (i = k) then GV (gD l i).lo b else (gD l i).lo, bif decide (i + 1 = k) then PV (gD l i).hi a else (gD l i).hi⟩ := by
 unfold vY
 rw [HM _ _ _ hi]
 unfold parM
 have e1 : ((k : Int)).toNat = k := by omega
 rw [e1]
 congr 1
 ·by_cases q : i = k
  ·rw [decide_eq_true q, decide_eq_true (show (k : Int) < l.length by omega)]; rfl
  ·rw [decide_eq_false q]; rfl
 ·by_cases q : i + 1 = k
  ·rw [decide_eq_true q, decide_eq_true (show (k : Int) > 0 by omega), decide_eq_true (show i = ((k : Int) - 1).toNat by omega)]; rfl
  ·rw [decide_eq_false q]
   have : (decide ((k : Int) > 0) && decide (i = ((k : Int) - 1).toNat)) = false := by
    by_cases q1 : (k : Int) > 0
    ·have : ¬ i = ((k : Int) - 1).toNat := by omega
     rw [decide_eq_false this, Bool.and_false]
    ·rw [decide_eq_false q1]; rfl
   rw [this]
theorem AYR {b : Bool} {p q v : Int} : (bif b then GV p q else p) <= v ↔ p <= v /\ (b = true -> q <= v) := by
 cases b
 ·exact ⟨λ h => ⟨h, λ h => (by cases h)⟩, λ h => h.1⟩
 ·exact maxI_le.trans ⟨λ h => ⟨h.1, λ _ => h.2⟩, λ h => ⟨h.1, h.2 rfl⟩⟩
theorem AXE {b : Bool} {p q v : Int} : v <= (bif b then PV p q else p) ↔ v <= p /\ (b = true -> v <= q) := by
 cases b
 ·exact ⟨λ h => ⟨h, λ h => (by cases h)⟩, λ h => h.1⟩
 ·exact le_minI.trans ⟨λ h => ⟨h.1, λ _ => h.2⟩, λ h => ⟨h.1, h.2 rfl⟩⟩
theorem BQP {l : List Span} {a b i : Nat} {x y : Int} (hx : -100000001 <= x /\ x <= 100000001) (hy : -100000001 <= y /\ y <= 100000001) (hi : i < l.length) (ha : a < l.length) (hb : b < l.length) (hb2 : b < 100000) (v : Int) : (gD (vZ l a b x y) i).has v ↔ (gD l i).has v /\ (i = a -> x <= v) /\ (i + 1 = a -> v <= x - 1) /\ (i = b + 1 -> y + 1 <= v) /\ (i = b -> v <= y) := by
 have e1 : wr (x - 1) = x - 1 := NU (by omega) (by omega)
 have e2 : wr ((b : Int) + 1) = ((b + 1 : Nat) : Int) := MO (by omega)
 have e3 : wr (y + 1) = y + 1 := NU (by omega) (by omega)
 unfold vZ
 rw [e1, e2, e3, ADO (by rw [VZ]; exact hi) (by rw [VZ]; omega), ADO hi (by omega)]
 unfold Span.has
 show (bif decide (i = b + 1) then GV (bif decide (i = a) then GV (gD l i).lo x else (gD l i).lo) (y + 1) else (bif decide (i = a) then GV (gD l i).lo x else (gD l i).lo)) <= v /\ v <= (bif decide (i + 1 = b + 1) then PV (bif decide (i + 1 = a) then PV (gD l i).hi (x - 1) else (gD l i).hi) y else (bif decide (i + 1 = a) then PV (gD l i).hi (x - 1) else (gD l i).hi)) ↔ _
 rw [AYR, AYR, AXE, AXE]
 simp only [decide_eq_true_eq]
 omega
theorem BTH {l : List Span} {a b i : Nat} {x y : Int} (hx : -100000001 <= x /\ x <= 100000001) (hy : -100000001 <= y /\ y <= 100000001) (hi : i < l.length) (ha : a < l.length) (hb : b < l.length) (hb2 : b < 100000) (hl : wB 100000000 (gD l i)) : wB 1000000000 (gD (vZ l a b x y) i) := by
 have e1 : wr (x - 1) = x - 1 := NU (by omega) (by omega)
 have e2 : wr ((b : Int) + 1) = ((b + 1 : Nat) : Int) := MO (by omega)
 have e3 : wr (y + 1) = y + 1 := NU (by omega) (by omega)
 unfold vZ
 rw [e1, e2, e3, ADO (by rw [VZ]; exact hi) (by rw [VZ]; omega), ADO hi (by omega)]
 unfold wB at *
 obtain ⟨⟨l1, l2⟩, l3, l4⟩ := hl
 have m1 : ∀ (b : Bool) (p q : Int), -100000002 <= p /\ p <= 100000002 -> -100000002 <= q /\ q <= 100000002 -> -100000002 <= (bif b then GV p q else p) /\ (bif b then GV p q else p) <= 100000002 := λ b p q hp hq => by
  cases b
  ·exact hp
  ·exact BMK hp hq
 have m2 : ∀ (b : Bool) (p q : Int), -100000002 <= p /\ p <= 100000002 -> -100000002 <= q /\ q <= 100000002 -> -100000002 <= (bif b then PV p q else p) /\ (bif b then PV p q else p) <= 100000002 := λ b p q hp hq => by
  cases b
  ·exact hp
  ·show _ <= PV p q /\ PV p q <= _
   unfold PV; split <;> omega
 have a1 := m1 (decide (i = a)) (gD l i).lo x (by omega) (by omega)
 have a2 := m1 (decide (i = b + 1)) _ (y + 1) a1 (by omega)
 have b1 := m2 (decide (i + 1 = a)) (gD l i).hi (x - 1) (by omega) (by omega)
 have b2 := m2 (decide (i + 1 = b + 1)) _ y b1 (by omega)
 exact ⟨⟨Int.le_trans (by decide) a2.1, Int.le_trans a2.2 (by decide)⟩, Int.le_trans (by decide) b2.1, Int.le_trans b2.2 (by decide)⟩
def inW (c : Cht) (u : Nat -> Int) (f t : Int) (a b : Nat) : Prop := ∀ i, i < c.ms.length -> (f <= u i /\ u i <= t ↔ a <= i /\ i <= b)
theorem AWR {x : CZ2} (h : ChOk x.a.c) (hr : FO x.a = 0) {i j : Nat} (hij : i <= j) (hj : j < x.a.c.ms.length) (hft : gY x <= hU x) : gS x i j = true ↔ ∃ u, TrC x.a.c (JB x.a).sp u /\ inW x.a.c u x.f x.t i j := by
 have hm := h.m
 have tl := vL hr
 have mx := uN x.f (-100000001)
 have mn := ADK x.t 100000001
 have mx2 := AFC x.f (-100000001)
 have mn2 := AQF x.t 100000001
 have hF : -100000001 <= gY x /\ gY x <= 100000001 := by unfold gY hU at *; omega
 have hT : -100000001 <= hU x /\ hU x <= 100000001 := by unfold gY hU at *; omega
 unfold gS
 rw [ARB h hr (by rw [APB, tl]) (λ k hk => BTH hF hT (by omega) (by omega) (by omega) (by omega) (BPC h hr hk)) (λ k hk v => BQP hF hT (by omega) (by omega) (by omega) (by omega) v)]
 constructor
 ·rintro ⟨u, u1, u2⟩
  refine ⟨u, u1, λ k hk => ?_⟩
  have bk := u1.bd h hk
  have a1 := (u2 i (by omega)).1 rfl
  have a2 := (u2 j hj).2.2.2 rfl
  constructor
  ·rintro ⟨k1, k2⟩
   constructor
   ·refine Classical.byContradiction λ q => ?_
    have l1 := u1.le h (show k <= i - 1 by omega) (show i - 1 < _ by omega)
    have l2 := (u2 (i - 1) (by omega)).2.1 (by omega)
    unfold gY at *; omega
   ·refine Classical.byContradiction λ q => ?_
    have l1 := u1.le h (show j + 1 <= k by omega) hk
    have l2 := (u2 (j + 1) (by omega)).2.2.1 rfl
    unfold hU at *; omega
  ·rintro ⟨k1, k2⟩
   have l1 := u1.le h k1 hk
   have l2 := u1.le h k2 hj
   unfold gY hU at *; omega
 ·rintro ⟨u, u1, u2⟩
  refine ⟨u, u1, λ k hk => ?_⟩
  have bk := u1.bd h hk
  have w := u2 k hk
  refine ⟨λ e => ?_, λ e => ?_, λ e => ?_, λ e => ?_⟩
  ·have := w.2 (by omega); unfold gY; exact maxI_le.2 ⟨this.1, by omega⟩
  ·have l := u1.lt h (show k < i by omega) (by omega)
   have w2 := (u2 i (by omega)).2 (by omega)
   have : ¬ (x.f <= u k /\ u k <= x.t) := λ q => by have := w.1 q; omega
   unfold gY; omega
  ·have l := u1.lt h (show j < k by omega) hk
   have w2 := (u2 j hj).2 (by omega)
   have : ¬ (x.f <= u k /\ u k <= x.t) := λ q => by have := w.1 q; omega
   unfold hU; omega
  ·have := w.2 (by omega); unfold hU; exact le_minI.2 ⟨this.2, by omega⟩
def PkS (x : CZ2) (s : Span) : Prop := ∃ u, TrC x.a.c (JB x.a).sp u /\ ∃ i j, i <= j /\ j < x.a.c.ms.length /\ inW x.a.c u x.f x.t i j /\ s = ⟨gLo (Pm x i j), gHi (Pm x i j)⟩
theorem BFM (x : CZ2) (a : Nat) {h : Hul} {S : Span -> Prop} (hs : HulIs h S) : ∀ k, HulIs (pkI x a h k) λ s => S s ∨ ∃ j, j < k /\ gS x a (a + j) = true /\ s = ⟨gLo (Pm x a (a + j)), gHi (Pm x a (a + j))⟩
 | 0 => hs.ext λ s => ⟨.inl, λ h => h.elim id λ ⟨j, h, _⟩ => absurd h (Nat.not_lt_zero _)⟩
 | k + 1 => by
  have ih := BFM x a hs k
  show HulIs (bif gS x a (a + k) then Cz (pkI x a h k) ⟨gLo (Pm x a (a + k)), gHi (Pm x a (a + k))⟩ else pkI x a h k) _
  cases hi : gS x a (a + k) with
  | true =>
   refine (ih.add _).ext λ s => ⟨?_, ?_⟩
   ·rintro ((q | ⟨j, h1, h2⟩) | q)
    ·exact .inl q
    ·exact .inr ⟨j, by omega, h2⟩
    ·exact .inr ⟨k, Nat.lt_succ_self _, hi, q⟩
   ·rintro (q | ⟨j, h1, h2, h3⟩)
    ·exact .inl (.inl q)
    ·rcases Nat.lt_or_ge j k with r | r
     ·exact .inl (.inr ⟨j, r, h2, h3⟩)
     ·obtain rfl : j = k := by omega
      exact .inr h3
  | false =>
   refine ih.ext λ s => ⟨λ q => q.elim .inl λ ⟨j, h1, h2⟩ => .inr ⟨j, by omega, h2⟩, ?_⟩
   rintro (q | ⟨j, h1, h2, h3⟩)
   ·exact .inl q
   ·rcases Nat.lt_or_ge j k with r | r
    ·exact .inr ⟨j, r, h2, h3⟩
    ·obtain rfl : j = k := by omega
     rw [h2] at hi; cases hi
theorem BAJ (x : CZ2) (hft : gY x <= hU x) : ∀ k, HulIs (vV x k) λ s => ∃ a j, a < k /\ j < x.a.c.ms.length - a /\ gS x a (a + j) = true /\ s = ⟨gLo (Pm x a (a + j)), gHi (Pm x a (a + j))⟩
 | 0 => HulIs.zero λ s ⟨a, j, h, _⟩ => absurd h (Nat.not_lt_zero _)
 | k + 1 => by
  have ih := BFM x k (BAJ x hft k) (x.a.c.ms.length - k)
  show HulIs (bif decide (hU x >= gY x) then pkI x k (vV x k) (x.a.c.ms.length - k) else vV x k) _
  rw [decide_eq_true hft]
  refine ih.ext λ s => ⟨?_, ?_⟩
  ·rintro (⟨a, j, h1, h2⟩ | ⟨j, h1, h2⟩)
   ·exact ⟨a, j, by omega, h2⟩
   ·exact ⟨k, j, Nat.lt_succ_self _, h1, h2⟩
  ·rintro ⟨a, j, h1, h2, h3⟩
   rcases Nat.lt_or_ge a k with r | r
   ·exact .inl ⟨a, j, r, h2, h3⟩
   ·obtain rfl : a = k := by omega
    exact .inr ⟨j, h2, h3⟩
theorem BGK (x : CZ2) (hft : ¬ gY x <= hU x) : ∀ k, vV x k = zHul
 | 0 => rfl
 | k + 1 => by
  show (bif decide (hU x >= gY x) then pkI x k (vV x k) (x.a.c.ms.length - k) else vV x k) = zHul
  rw [decide_eq_false hft]; exact BGK x hft k
theorem BJY {x : CZ2} (h : ChOk x.a.c) (hr : FO x.a = 0) (ht : x.f <= x.t) : HulIs (vV x x.a.c.ms.length) (PkS x) := by
 by_cases hft : gY x <= hU x
 ·refine (BAJ x hft _).ext λ s => ⟨?_, ?_⟩
  ·rintro ⟨a, j, h1, h2, h3, h4⟩
   obtain ⟨u, u1, u2⟩ := (AWR h hr (show a <= a + j by omega) (by omega) hft).1 h3
   exact ⟨u, u1, a, a + j, by omega, by omega, u2, h4⟩
  ·rintro ⟨u, u1, i, j, h1, h2, h3, h4⟩
   refine ⟨i, j - i, by omega, by omega, ?_, ?_⟩
   ·rw [show i + (j - i) = j by omega]; exact (AWR h hr h1 h2 hft).2 ⟨u, u1, h3⟩
   ·rw [show i + (j - i) = j by omega]; exact h4
 ·rw [BGK x hft]
  refine HulIs.zero ?_
  rintro s ⟨u, u1, i, j, h1, h2, h3, h4⟩
  have b := u1.bd h (show i < _ by omega)
  have w := (h3 i (by omega)).2 ⟨Nat.le_refl _, h1⟩
  refine hft ?_
  exact Int.le_trans (maxI_le.2 ⟨w.1, by omega⟩) (le_minI.2 ⟨w.2, by omega⟩)
theorem TrC.window {c : Cht} (h : ChOk c) {sp : Nat -> Bool} {u : Nat -> Int} (hu : TrC c sp u) {f t : Int} {k : Nat} (hk : k < c.ms.length) (hw : f <= u k /\ u k <= t) : ∃ i j, i <= k /\ k <= j /\ j < c.ms.length /\ inW c u f t i j := by
 have low : ∀ d, d <= k -> (f <= u (k - d)) -> (∀ i, i < k - d -> ¬ f <= u i) ∨ ∃ i, i < k - d /\ f <= u i := λ d _ _ => by
  by_cases q : ∃ i, i < k - d /\ f <= u i
  ·exact .inr q
  ·exact .inl λ i hi hf => q ⟨i, hi, hf⟩
 have ex1 : ∃ i, i <= k /\ f <= u i /\ ∀ m, m < i -> ¬ f <= u m := by
  have : ∀ n, ∀ k, k <= n -> f <= u k -> ∃ i, i <= k /\ f <= u i /\ ∀ m, m < i -> ¬ f <= u m := by
   intro n
   induction n with
   | zero => intro k hk hf; exact ⟨k, Nat.le_refl _, hf, λ m hm => by omega⟩
   | succ n ih =>
    intro k hk hf
    by_cases q : ∃ m, m < k /\ f <= u m
    ·obtain ⟨m, m1, m2⟩ := q
     obtain ⟨i, i1, i2⟩ := ih m (by omega) m2
     exact ⟨i, by omega, i2⟩
    ·exact ⟨k, Nat.le_refl _, hf, λ m hm hq => q ⟨m, hm, hq⟩⟩
  exact this k k (Nat.le_refl _) hw.1
 have ex2 : ∃ j, k <= j /\ j < c.ms.length /\ u j <= t /\ ∀ m, j < m -> m < c.ms.length -> ¬ u m <= t := by
  have : ∀ n, ∀ k, c.ms.length - k <= n -> k < c.ms.length -> u k <= t -> ∃ j, k <= j /\ j < c.ms.length /\ u j <= t /\ ∀ m, j < m -> m < c.ms.length -> ¬ u m <= t := by
   intro n
   induction n with
   | zero => intro k hk hl hf; omega
   | succ n ih =>
    intro k hk hl hf
    by_cases q : ∃ m, k < m /\ m < c.ms.length /\ u m <= t
    ·obtain ⟨m, m1, m2, m3⟩ := q
     obtain ⟨i, i1, i2⟩ := ih m (by omega) m2 m3
     exact ⟨i, by omega, i2⟩
    ·exact ⟨k, Nat.le_refl _, hl, hf, λ m hm hl hq => q ⟨m, hm, hl, hq⟩⟩
  exact this _ k (Nat.le_refl _) hk hw.2
 obtain ⟨i, i1, i2, i3⟩ := ex1
 obtain ⟨j, j1, j2, j3, j4⟩ := ex2
 refine ⟨i, j, i1, j1, j2, λ m hm => ⟨λ ⟨a, b⟩ => ⟨?_, ?_⟩, λ ⟨a, b⟩ => ⟨?_, ?_⟩⟩⟩
 ·exact Nat.le_of_not_lt λ q => i3 m q a
 ·exact Nat.le_of_not_lt λ q => j4 m q hm b
 ·exact Int.le_trans i2 (hu.le h a hm)
 ·exact Int.le_trans (hu.le h b j2) j3
theorem O0 : ∀ (l : List Int) (a : Int), a <= l.foldl GV a /\ (∀ x ∈ l, x <= l.foldl GV a) /\ (l.foldl GV a = a ∨ l.foldl GV a ∈ l)
 | [], a => ⟨Int.le_refl _, λ x h => (by cases h), .inl rfl⟩
 | y :: l, a => by
  obtain ⟨h1, h2, h3⟩ := O0 l (GV a y)
  have m := uN a y
  show a <= l.foldl GV (GV a y) /\ (∀ x ∈ y :: l, x <= l.foldl GV (GV a y)) /\ (l.foldl GV (GV a y) = a ∨ l.foldl GV (GV a y) ∈ y :: l)
  refine ⟨by omega, λ x hx => ?_, ?_⟩
  ·rcases List.mem_cons.1 hx with e | hx
   ·subst e; omega
   ·exact h2 x hx
  ·rcases h3 with h3 | h3
   ·rw [h3]
    rcases AFC a y with ⟨q, _⟩ | ⟨q, _⟩
    ·exact .inl q
    ·rw [q]; exact .inr (List.mem_cons_self ..)
   ·exact .inr (List.mem_cons_of_mem _ h3)
theorem BTF {l : List Span} (h : 0 < l.length) : (∀ i, i < l.length -> (gD l i).lo <= gLo l) /\ ∃ i, i < l.length /\ gLo l = (gD l i).lo := by
 obtain ⟨h1, h2, h3⟩ := O0 (l.map (·.lo)) (gD l 0).lo
 refine ⟨λ i hi => h2 _ (List.mem_map.2 ⟨gD l i, LS hi, rfl⟩), ?_⟩
 rcases h3 with h3 | h3
 ·exact ⟨0, h, h3⟩
 ·obtain ⟨s, s1, s2⟩ := List.mem_map.1 h3
  obtain ⟨i, i1, i2⟩ := QG s1
  exact ⟨i, i1, by rw [i2]; exact s2.symm⟩
theorem BSB {l : List Span} (h : 0 < l.length) : (∀ i, i < l.length -> (gD l i).hi <= gHi l) /\ ∃ i, i < l.length /\ gHi l = (gD l i).hi := by
 obtain ⟨h1, h2, h3⟩ := O0 (l.map (·.hi)) (gD l 0).hi
 refine ⟨λ i hi => h2 _ (List.mem_map.2 ⟨gD l i, LS hi, rfl⟩), ?_⟩
 rcases h3 with h3 | h3
 ·exact ⟨0, h, h3⟩
 ·obtain ⟨s, s1, s2⟩ := List.mem_map.1 h3
  obtain ⟨i, i1, i2⟩ := QG s1
  exact ⟨i, i1, by rw [i2]; exact s2.symm⟩
theorem ACV (x : CZ2) (i j : Nat) : (Pm x i j).length = j + 1 - i := rng_length _ _
theorem BFZ (x : CZ2) {i j k : Nat} (h : k < j + 1 - i) : gD (Pm x i j) k = gD (FK x.a.c) (i + k) := HM _ _ _ h
def FsS (a : CZ) (t : Int) (k : Nat) (s : Span) : Prop := ∃ i, i < k /\ s = gD (UD a) i /\ t <= (gD (FK a.c) i).hi /\ ∀ j, j < i -> (gD (FK a.c) j).lo < t
theorem BCO {x : CZI} (hle : ∀ i, i < x.a.c.ms.length -> (gD (FK x.a.c) i).lo <= (gD (FK x.a.c) i).hi) : ∀ k, k <= x.a.c.ms.length -> HulIs (In x k).1 (FsS x.a x.t k) /\ ((In x k).2 = true ↔ ∃ i, i < k /\ x.t <= (gD (FK x.a.c) i).lo)
 | 0, _ => ⟨HulIs.zero λ s ⟨i, h, _⟩ => absurd h (Nat.not_lt_zero _), ⟨λ h => (by cases h), λ ⟨i, h, _⟩ => absurd h (Nat.not_lt_zero _)⟩⟩
 | k + 1, hk => by
  obtain ⟨ih, is⟩ := BCO hle k (by omega)
  have hl := hle k (by omega)
  have e : In x (k + 1) = bif (In x k).2 then In x k else bif decide ((gD (FK x.a.c) k).hi >= x.t) then (Cz (In x k).1 (gD (UD x.a) k), decide ((gD (FK x.a.c) k).lo >= x.t)) else In x k := rfl
  rw [e]
  cases hs : (In x k).2 with
  | true =>
   obtain ⟨m, m1, m2⟩ := is.1 hs
   refine ⟨ih.ext λ s => ⟨λ ⟨i, h1, h2⟩ => ⟨i, by omega, h2⟩, λ ⟨i, h1, h2, h3, h4⟩ => ?_⟩, ⟨λ _ => ⟨m, by omega, m2⟩, λ _ => hs⟩⟩
   rcases Nat.lt_or_ge i k with q | q
   ·exact ⟨i, q, h2, h3, h4⟩
   ·have := h4 m (by omega); omega
  | false =>
   have no : ∀ i, i < k -> (gD (FK x.a.c) i).lo < x.t := λ i hi => by
    refine Classical.byContradiction λ q => ?_
    rw [is.2 ⟨i, hi, by omega⟩] at hs; cases hs
   show HulIs (bif decide ((gD (FK x.a.c) k).hi >= x.t) then (Cz (In x k).1 (gD (UD x.a) k), decide ((gD (FK x.a.c) k).lo >= x.t)) else In x k).1 _ /\ ((bif decide ((gD (FK x.a.c) k).hi >= x.t) then (Cz (In x k).1 (gD (UD x.a) k), decide ((gD (FK x.a.c) k).lo >= x.t)) else In x k).2 = true ↔ _)
   by_cases q : (gD (FK x.a.c) k).hi >= x.t
   ·rw [decide_eq_true q]
    refine ⟨(ih.add (gD (UD x.a) k)).ext λ s => ⟨?_, ?_⟩, ?_⟩
    ·rintro (⟨i, h1, h2⟩ | h)
     ·exact ⟨i, by omega, h2⟩
     ·exact ⟨k, Nat.lt_succ_self _, h, q, no⟩
    ·rintro ⟨i, h1, h2, h3, h4⟩
     rcases Nat.lt_or_ge i k with r | r
     ·exact .inl ⟨i, r, h2, h3, h4⟩
     ·obtain rfl : i = k := by omega
      exact .inr h2
    ·show decide ((gD (FK x.a.c) k).lo >= x.t) = true ↔ _
     rw [decide_eq_true_eq]
     constructor
     ·intro h; exact ⟨k, Nat.lt_succ_self _, h⟩
     ·rintro ⟨i, h1, h2⟩
      rcases Nat.lt_or_ge i k with r | r
      ·have := no i r; omega
      ·obtain rfl : i = k := by omega
       exact h2
   ·rw [decide_eq_false q]
    refine ⟨ih.ext λ s => ⟨λ ⟨i, h1, h2⟩ => ⟨i, by omega, h2⟩, λ ⟨i, h1, h2, h3, h4⟩ => ?_⟩, ?_⟩
    ·rcases Nat.lt_or_ge i k with r | r
     ·exact ⟨i, r, h2, h3, h4⟩
     ·obtain rfl : i = k := by omega
      omega
    ·show (In x k).2 = true ↔ _
     rw [is]
     constructor
     ·rintro ⟨i, h1, h2⟩; exact ⟨i, by omega, h2⟩
     ·rintro ⟨i, h1, h2⟩
      rcases Nat.lt_or_ge i k with r | r
      ·exact ⟨i, r, h2⟩
      ·obtain rfl : i = k := by omega
       omega
theorem BTB {a : CZ} {t : Int} (hle : ∀ i, i < a.c.ms.length -> (gD (FK a.c) i).lo <= (gD (FK a.c) i).hi) : ∀ k, k <= a.c.ms.length -> ((∃ s, FsS a t k s) ↔ ∃ i, i < k /\ t <= (gD (FK a.c) i).hi) := by
 intro k hk
 constructor
 ·rintro ⟨s, i, h1, _, h3, _⟩; exact ⟨i, h1, h3⟩
 ·rintro ⟨i, h1, h2⟩
  have : ∀ n, ∀ i, i <= n -> i < k -> t <= (gD (FK a.c) i).hi -> ∃ s, FsS a t k s := by
   intro n
   induction n with
   | zero => intro i hi h1 h2; exact ⟨_, i, h1, rfl, h2, λ j hj => by omega⟩
   | succ n ih =>
    intro i hi h1 h2
    by_cases q : ∃ j, j < i /\ t <= (gD (FK a.c) j).hi
    ·obtain ⟨j, j1, j2⟩ := q
     exact ih j (by omega) (by omega) j2
    ·refine ⟨_, i, h1, rfl, h2, λ j hj => ?_⟩
     have l := hle j (by omega)
     have : ¬ t <= (gD (FK a.c) j).hi := λ r => q ⟨j, hj, r⟩
     omega
  exact this i i (Nat.le_refl _) h1 h2
end Go.Bal
