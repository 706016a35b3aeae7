/- Package chart: what Stage, Peak and First return, by truths (no program in sight). -/
import Derived.Test.YtdbjalgfomknhaaChT5
import Derived.Test.YtdbjalgfomknhaaChJ
set_option linter.unusedVariables false
set_option linter.unusedSimpArgs false
namespace Go.Bal
open Go Go.Sym Go.Proofs
theorem maxI_or2 (a b : Int) : maxI a b = a /\ b <= a ∨ maxI a b = b /\ a <= b := by unfold maxI; split <;> omega
theorem minI_or2 (a b : Int) : minI a b = a /\ a <= b ∨ minI a b = b /\ b <= a := by unfold minI; split <;> omega
def HulIs (h : Hul) (S : Span -> Prop) : Prop := (h.m = true -> (∃ s, S s /\ s.lo = h.s.lo) /\ ∃ s, S s /\ s.hi = h.s.hi) /\ ∀ s, S s -> h.m = true /\ h.s.lo <= s.lo /\ s.hi <= h.s.hi
theorem HulIs.zero {S : Span -> Prop} (h : ∀ s, ¬ S s) : HulIs zHul S := ⟨λ h => (by cases h), λ s hs => absurd hs (h s)⟩
theorem HulIs.ext {h : Hul} {S T : Span -> Prop} (hs : HulIs h S) (e : ∀ s, S s ↔ T s) : HulIs h T :=
 ⟨λ hm => let ⟨⟨a, a1, a2⟩, b, b1, b2⟩ := hs.1 hm; ⟨⟨a, (e a).1 a1, a2⟩, b, (e b).1 b1, b2⟩, λ s q => hs.2 s ((e s).2 q)⟩
theorem HulIs.add {h : Hul} {S : Span -> Prop} (hs : HulIs h S) (x : Span) : HulIs (hadM h x) λ s => S s ∨ s = x := by
 cases hm : h.m with
 | false =>
  have no : ∀ s, ¬ S s := λ s q => by have := (hs.2 s q).1; rw [hm] at this; cases this
  have e : hadM h x = ⟨x, true⟩ := by unfold hadM; rw [hm]; rfl
  rw [e]
  exact ⟨λ _ => ⟨⟨x, .inr rfl, rfl⟩, x, .inr rfl, rfl⟩, λ s q => q.elim (λ q => absurd q (no s)) λ q => by subst q; exact ⟨rfl, Int.le_refl _, Int.le_refl _⟩⟩
 | true =>
  have e : hadM h x = ⟨⟨minI x.lo h.s.lo, maxI x.hi h.s.hi⟩, true⟩ := by unfold hadM; rw [hm]; rfl
  obtain ⟨⟨a, a1, a2⟩, b, b1, b2⟩ := hs.1 hm
  have m1 := minI_le x.lo h.s.lo
  have m2 := maxI_ge x.hi h.s.hi
  rw [e]
  refine ⟨λ _ => ⟨?_, ?_⟩, λ s q => ⟨rfl, ?_, ?_⟩⟩
  ·show ∃ s, (S s ∨ s = x) /\ s.lo = minI x.lo h.s.lo
   rcases minI_or2 x.lo h.s.lo with ⟨q, _⟩ | ⟨q, _⟩ <;> rw [q]
   ·exact ⟨x, .inr rfl, rfl⟩
   ·exact ⟨a, .inl a1, a2⟩
  ·show ∃ s, (S s ∨ s = x) /\ s.hi = maxI x.hi h.s.hi
   rcases maxI_or2 x.hi h.s.hi with ⟨q, _⟩ | ⟨q, _⟩ <;> rw [q]
   ·exact ⟨x, .inr rfl, rfl⟩
   ·exact ⟨b, .inl b1, b2⟩
  ·show minI x.lo h.s.lo <= s.lo
   rcases q with q | q
   ·have := (hs.2 s q).2; omega
   ·subst q; exact m1.1
  ·show s.hi <= maxI x.hi h.s.hi
   rcases q with q | q
   ·have := (hs.2 s q).2; omega
   ·subst q; exact m2.1
theorem HulIs.who {h : Hul} {S : Span -> Prop} (hs : HulIs h S) : (∃ s, S s) /\ (whoM h).2 = 0 /\ (whoM h).1 = h.s /\ h.m = true ∨ (∀ s, ¬ S s) /\ whoM h = (⟨0, 0⟩, 5) := by
 cases hm : h.m with
 | true =>
  obtain ⟨⟨a, a1, _⟩, _⟩ := hs.1 hm
  exact .inl ⟨⟨a, a1⟩, by unfold whoM; rw [hm]; rfl, by unfold whoM; rw [hm]; rfl, rfl⟩
 | false => exact .inr ⟨λ s q => (by have := (hs.2 s q).1; rw [hm] at this; cases this), by unfold whoM; rw [hm]; rfl⟩
theorem HulIs.uniq {h k : Hul} {S : Span -> Prop} (hs : HulIs h S) (ks : HulIs k S) : whoM h = whoM k := by
 rcases hs.who with ⟨⟨s, q⟩, _, _, hm⟩ | ⟨no, e⟩
 ·have km := (ks.2 s q).1
  obtain ⟨⟨a, a1, a2⟩, b, b1, b2⟩ := hs.1 hm
  obtain ⟨⟨c, c1, c2⟩, d, d1, d2⟩ := ks.1 km
  have x1 := ks.2 a a1
  have x2 := ks.2 b b1
  have x3 := hs.2 c c1
  have x4 := hs.2 d d1
  have e : h.s = k.s := by
   obtain ⟨⟨p, q⟩, _⟩ := h
   obtain ⟨⟨u, v⟩, _⟩ := k
   simp only at *
   congr 1 <;> omega
  unfold whoM; rw [hm, km, e]
 ·rcases ks.who with ⟨⟨s, q⟩, _⟩ | ⟨_, e2⟩
  ·exact absurd q (no s)
  ·rw [e, e2]
theorem nar_sub_iff {a : CZ} (h : ChOk a.c) (hr : readE a = 0) {l : List Span} (hl : l.length = a.c.ms.length) (hb : ∀ i, i < a.c.ms.length -> bdS 1000000000 (gD l i)) {Q : Nat -> Int -> Prop} (hq : ∀ i, i < a.c.ms.length -> ∀ x, (gD l i).has x ↔ (gD (tmL a) i).has x /\ Q i x) : (narL (begD a) l).all leM = true ↔ ∃ u, TrC a.c (begD a).sp u /\ ∀ i, i < a.c.ms.length -> Q i (u i) := by
 have hm := h.m
 have b1 : gpOk (gapM (begD a)) (a.c.ms.length - 1) := gpOk_of (w := begD a) h
 have b2 : ∀ g, g < a.c.ms.length - 1 -> (gapM (begD a) g).lo <= (gapM (begD a) g).hi := gple_of (w := begD a) h
 rw [nar_ok (by omega) (by omega) (λ i hi => hb i (by omega)) (by rw [hl]; exact b1) (by rw [hl]; exact b2), hl]
 constructor
 ·rintro ⟨u, hu⟩
  refine ⟨u, ⟨λ i hi => ?_, λ k hk => ?_⟩, λ i hi => ((hq i hi _).1 (hu.at_ i (by omega))).2⟩
  ·obtain ⟨v, v1, v2⟩ := (tm_in h hr (by omega)).1 ((hq i (by omega) _).1 (hu.at_ i hi)).1
   have := v1.note (i := i) (by omega)
   rw [v2] at this; exact this
  ·have := hu.gap k hk
   rw [gapM_eq (w := begD a) h (by show k + 1 < a.c.ms.length; omega)] at this; exact this
 ·rintro ⟨u, hu, uq⟩
  refine ⟨u, λ i hi => (hq i (by omega) _).2 ⟨(tm_in h hr (by omega)).2 ⟨u, hu, rfl⟩, uq i (by omega)⟩, λ k hk => ?_⟩
  have := hu.gap k hk
  rw [gapM_eq (w := begD a) h (by show k + 1 < a.c.ms.length; omega)]; exact this
theorem TrC.bd {c : Cht} (h : ChOk c) {sp : Nat -> Bool} {u : Nat -> Int} (hu : TrC c sp u) {i : Nat} (hi : i < c.ms.length) : -100000000 <= u i /\ u i <= 100000000 := by
 have n := hu.note hi
 have b := (notM_bd h (i : Int)).1
 unfold bdS at b
 unfold Span.has at n
 omega
theorem TrC.inc {c : Cht} (h : ChOk c) {sp : Nat -> Bool} {u : Nat -> Int} (hu : TrC c sp u) {g : Nat} (hg : g + 1 < c.ms.length) : u g < u (g + 1) := by
 have a := (hu.gap g (by omega)).1
 have b := (h.gap sp hg).1
 have a : c.p.lo * farP c g <= u (g + 1) - u g := a
 omega
theorem TrC.lt {c : Cht} (h : ChOk c) {sp : Nat -> Bool} {u : Nat -> Int} (hu : TrC c sp u) {i : Nat} : ∀ {j : Nat}, i < j -> j < c.ms.length -> u i < u j
 | j + 1, hij, hj => by
  have := hu.inc h hj
  rcases Nat.lt_or_ge i j with q | q
  ·have := hu.lt h q (by omega); omega
  ·obtain rfl : i = j := by omega
   exact this
theorem TrC.le {c : Cht} (h : ChOk c) {sp : Nat -> Bool} {u : Nat -> Int} (hu : TrC c sp u) {i j : Nat} (hij : i <= j) (hj : j < c.ms.length) : u i <= u j := by
 rcases Nat.lt_or_ge i j with q | q
 ·exact Int.le_of_lt (hu.lt h q hj)
 ·obtain rfl : i = j := by omega
  exact Int.le_refl _
theorem stgL_at {c : Cht} {i : Nat} (hi : i < c.ms.length) : gD (stgL c) i = stgM c i := rng_get _ _ _ hi
theorem par_gen {l : List Span} {k : Nat} {a b : Int} {i : Nat} (hi : i < l.length) (hk : k <= l.length) : gD (parL l (k : Int) a b) i = ⟨bif decide (i = k) then maxI (gD l i).lo b else (gD l i).lo, bif decide (i + 1 = k) then minI (gD l i).hi a else (gD l i).hi⟩ := by
 unfold parL
 rw [rng_get _ _ _ hi]
 unfold parM
 have e1 : ((k : Int)).toNat = k := by omega
 rw [e1]
 congr 1
 ·by_cases q : i = k
  ·rw [decide_eq_true q, decide_eq_true (show (k : Int) < l.length by omega)]; rfl
  ·rw [decide_eq_false q]; rfl
 ·by_cases q : i + 1 = k
  ·rw [decide_eq_true q, decide_eq_true (show (k : Int) > 0 by omega), decide_eq_true (show i = ((k : Int) - 1).toNat by omega)]; rfl
  ·rw [decide_eq_false q]
   have : (decide ((k : Int) > 0) && decide (i = ((k : Int) - 1).toNat)) = false := by
    by_cases q1 : (k : Int) > 0
    ·have : ¬ i = ((k : Int) - 1).toNat := by omega
     rw [decide_eq_false this, Bool.and_false]
    ·rw [decide_eq_false q1]; rfl
   rw [this]
theorem bmax_le {b : Bool} {p q v : Int} : (bif b then maxI p q else p) <= v ↔ p <= v /\ (b = true -> q <= v) := by
 cases b
 ·exact ⟨λ h => ⟨h, λ h => (by cases h)⟩, λ h => h.1⟩
 ·exact maxI_le.trans ⟨λ h => ⟨h.1, λ _ => h.2⟩, λ h => ⟨h.1, h.2 rfl⟩⟩
theorem le_bmin {b : Bool} {p q v : Int} : v <= (bif b then minI p q else p) ↔ v <= p /\ (b = true -> v <= q) := by
 cases b
 ·exact ⟨λ h => ⟨h, λ h => (by cases h)⟩, λ h => h.1⟩
 ·exact le_minI.trans ⟨λ h => ⟨h.1, λ _ => h.2⟩, λ h => ⟨h.1, h.2 rfl⟩⟩
theorem win_at {l : List Span} {a b i : Nat} {x y : Int} (hx : -100000001 <= x /\ x <= 100000001) (hy : -100000001 <= y /\ y <= 100000001) (hi : i < l.length) (ha : a < l.length) (hb : b < l.length) (hb2 : b < 100000) (v : Int) : (gD (winL l a b x y) i).has v ↔ (gD l i).has v /\ (i = a -> x <= v) /\ (i + 1 = a -> v <= x - 1) /\ (i = b + 1 -> y + 1 <= v) /\ (i = b -> v <= y) := by
 have e1 : wr (x - 1) = x - 1 := w64 (by omega) (by omega)
 have e2 : wr ((b : Int) + 1) = ((b + 1 : Nat) : Int) := wsucc (by omega)
 have e3 : wr (y + 1) = y + 1 := w64 (by omega) (by omega)
 unfold winL
 rw [e1, e2, e3, par_gen (by rw [parL_len2]; exact hi) (by rw [parL_len2]; omega), par_gen hi (by omega)]
 unfold Span.has
 show (bif decide (i = b + 1) then maxI (bif decide (i = a) then maxI (gD l i).lo x else (gD l i).lo) (y + 1) else (bif decide (i = a) then maxI (gD l i).lo x else (gD l i).lo)) <= v /\ v <= (bif decide (i + 1 = b + 1) then minI (bif decide (i + 1 = a) then minI (gD l i).hi (x - 1) else (gD l i).hi) y else (bif decide (i + 1 = a) then minI (gD l i).hi (x - 1) else (gD l i).hi)) ↔ _
 rw [bmax_le, bmax_le, le_bmin, le_bmin]
 simp only [decide_eq_true_eq]
 omega
theorem win_bd {l : List Span} {a b i : Nat} {x y : Int} (hx : -100000001 <= x /\ x <= 100000001) (hy : -100000001 <= y /\ y <= 100000001) (hi : i < l.length) (ha : a < l.length) (hb : b < l.length) (hb2 : b < 100000) (hl : bdS 100000000 (gD l i)) : bdS 1000000000 (gD (winL l a b x y) i) := by
 have e1 : wr (x - 1) = x - 1 := w64 (by omega) (by omega)
 have e2 : wr ((b : Int) + 1) = ((b + 1 : Nat) : Int) := wsucc (by omega)
 have e3 : wr (y + 1) = y + 1 := w64 (by omega) (by omega)
 unfold winL
 rw [e1, e2, e3, par_gen (by rw [parL_len2]; exact hi) (by rw [parL_len2]; omega), par_gen hi (by omega)]
 unfold bdS at *
 obtain ⟨⟨l1, l2⟩, l3, l4⟩ := hl
 have m1 : ∀ (b : Bool) (p q : Int), -100000002 <= p /\ p <= 100000002 -> -100000002 <= q /\ q <= 100000002 -> -100000002 <= (bif b then maxI p q else p) /\ (bif b then maxI p q else p) <= 100000002 := λ b p q hp hq => by
  cases b
  ·exact hp
  ·exact maxI_in hp hq
 have m2 : ∀ (b : Bool) (p q : Int), -100000002 <= p /\ p <= 100000002 -> -100000002 <= q /\ q <= 100000002 -> -100000002 <= (bif b then minI p q else p) /\ (bif b then minI p q else p) <= 100000002 := λ b p q hp hq => by
  cases b
  ·exact hp
  ·show _ <= minI p q /\ minI p q <= _
   unfold minI; split <;> omega
 have a1 := m1 (decide (i = a)) (gD l i).lo x (by omega) (by omega)
 have a2 := m1 (decide (i = b + 1)) _ (y + 1) a1 (by omega)
 have b1 := m2 (decide (i + 1 = a)) (gD l i).hi (x - 1) (by omega) (by omega)
 have b2 := m2 (decide (i + 1 = b + 1)) _ y b1 (by omega)
 exact ⟨⟨Int.le_trans (by decide) a2.1, Int.le_trans a2.2 (by decide)⟩, Int.le_trans (by decide) b2.1, Int.le_trans b2.2 (by decide)⟩
def inW (c : Cht) (u : Nat -> Int) (f t : Int) (a b : Nat) : Prop := ∀ i, i < c.ms.length -> (f <= u i /\ u i <= t ↔ a <= i /\ i <= b)
theorem win_iff {x : CZ2} (h : ChOk x.a.c) (hr : readE x.a = 0) {i j : Nat} (hij : i <= j) (hj : j < x.a.c.ms.length) (hft : pkF x <= pkT x) : winOk x i j = true ↔ ∃ u, TrC x.a.c (begD x.a).sp u /\ inW x.a.c u x.f x.t i j := by
 have hm := h.m
 have tl := tmL_len hr
 have mx := maxI_ge x.f (-100000001)
 have mn := minI_le x.t 100000001
 have mx2 := maxI_or2 x.f (-100000001)
 have mn2 := minI_or2 x.t 100000001
 have hF : -100000001 <= pkF x /\ pkF x <= 100000001 := by unfold pkF pkT at *; omega
 have hT : -100000001 <= pkT x /\ pkT x <= 100000001 := by unfold pkF pkT at *; omega
 unfold winOk
 rw [nar_sub_iff h hr (by rw [winL_len, tl]) (λ k hk => win_bd hF hT (by omega) (by omega) (by omega) (by omega) (tm_bd h hr hk)) (λ k hk v => win_at hF hT (by omega) (by omega) (by omega) (by omega) v)]
 constructor
 ·rintro ⟨u, u1, u2⟩
  refine ⟨u, u1, λ k hk => ?_⟩
  have bk := u1.bd h hk
  have a1 := (u2 i (by omega)).1 rfl
  have a2 := (u2 j hj).2.2.2 rfl
  constructor
  ·rintro ⟨k1, k2⟩
   constructor
   ·refine Classical.byContradiction λ q => ?_
    have l1 := u1.le h (show k <= i - 1 by omega) (show i - 1 < _ by omega)
    have l2 := (u2 (i - 1) (by omega)).2.1 (by omega)
    unfold pkF at *; omega
   ·refine Classical.byContradiction λ q => ?_
    have l1 := u1.le h (show j + 1 <= k by omega) hk
    have l2 := (u2 (j + 1) (by omega)).2.2.1 rfl
    unfold pkT at *; omega
  ·rintro ⟨k1, k2⟩
   have l1 := u1.le h k1 hk
   have l2 := u1.le h k2 hj
   unfold pkF pkT at *; omega
 ·rintro ⟨u, u1, u2⟩
  refine ⟨u, u1, λ k hk => ?_⟩
  have bk := u1.bd h hk
  have w := u2 k hk
  refine ⟨λ e => ?_, λ e => ?_, λ e => ?_, λ e => ?_⟩
  ·have := w.2 (by omega); unfold pkF; exact maxI_le.2 ⟨this.1, by omega⟩
  ·have l := u1.lt h (show k < i by omega) (by omega)
   have w2 := (u2 i (by omega)).2 (by omega)
   have : ¬ (x.f <= u k /\ u k <= x.t) := λ q => by have := w.1 q; omega
   unfold pkF; omega
  ·have l := u1.lt h (show j < k by omega) hk
   have w2 := (u2 j hj).2 (by omega)
   have : ¬ (x.f <= u k /\ u k <= x.t) := λ q => by have := w.1 q; omega
   unfold pkT; omega
  ·have := w.2 (by omega); unfold pkT; exact le_minI.2 ⟨this.2, by omega⟩
def PkS (x : CZ2) (s : Span) : Prop := ∃ u, TrC x.a.c (begD x.a).sp u /\ ∃ i j, i <= j /\ j < x.a.c.ms.length /\ inW x.a.c u x.f x.t i j /\ s = ⟨gLo (sliS x i j), gHi (sliS x i j)⟩
theorem pkI_is (x : CZ2) (a : Nat) {h : Hul} {S : Span -> Prop} (hs : HulIs h S) : ∀ k, HulIs (pkI x a h k) λ s => S s ∨ ∃ j, j < k /\ winOk x a (a + j) = true /\ s = ⟨gLo (sliS x a (a + j)), gHi (sliS x a (a + j))⟩
 | 0 => hs.ext λ s => ⟨.inl, λ h => h.elim id λ ⟨j, h, _⟩ => absurd h (Nat.not_lt_zero _)⟩
 | k + 1 => by
  have ih := pkI_is x a hs k
  show HulIs (bif winOk x a (a + k) then hadM (pkI x a h k) ⟨gLo (sliS x a (a + k)), gHi (sliS x a (a + k))⟩ else pkI x a h k) _
  cases hi : winOk x a (a + k) with
  | true =>
   refine (ih.add _).ext λ s => ⟨?_, ?_⟩
   ·rintro ((q | ⟨j, h1, h2⟩) | q)
    ·exact .inl q
    ·exact .inr ⟨j, by omega, h2⟩
    ·exact .inr ⟨k, Nat.lt_succ_self _, hi, q⟩
   ·rintro (q | ⟨j, h1, h2, h3⟩)
    ·exact .inl (.inl q)
    ·rcases Nat.lt_or_ge j k with r | r
     ·exact .inl (.inr ⟨j, r, h2, h3⟩)
     ·obtain rfl : j = k := by omega
      exact .inr h3
  | false =>
   refine ih.ext λ s => ⟨λ q => q.elim .inl λ ⟨j, h1, h2⟩ => .inr ⟨j, by omega, h2⟩, ?_⟩
   rintro (q | ⟨j, h1, h2, h3⟩)
   ·exact .inl q
   ·rcases Nat.lt_or_ge j k with r | r
    ·exact .inr ⟨j, r, h2, h3⟩
    ·obtain rfl : j = k := by omega
     rw [h2] at hi; cases hi
theorem pkO_is (x : CZ2) (hft : pkF x <= pkT x) : ∀ k, HulIs (pkO x k) λ s => ∃ a j, a < k /\ j < x.a.c.ms.length - a /\ winOk x a (a + j) = true /\ s = ⟨gLo (sliS x a (a + j)), gHi (sliS x a (a + j))⟩
 | 0 => HulIs.zero λ s ⟨a, j, h, _⟩ => absurd h (Nat.not_lt_zero _)
 | k + 1 => by
  have ih := pkI_is x k (pkO_is x hft k) (x.a.c.ms.length - k)
  show HulIs (bif decide (pkT x >= pkF x) then pkI x k (pkO x k) (x.a.c.ms.length - k) else pkO x k) _
  rw [decide_eq_true hft]
  refine ih.ext λ s => ⟨?_, ?_⟩
  ·rintro (⟨a, j, h1, h2⟩ | ⟨j, h1, h2⟩)
   ·exact ⟨a, j, by omega, h2⟩
   ·exact ⟨k, j, Nat.lt_succ_self _, h1, h2⟩
  ·rintro ⟨a, j, h1, h2, h3⟩
   rcases Nat.lt_or_ge a k with r | r
   ·exact .inl ⟨a, j, r, h2, h3⟩
   ·obtain rfl : a = k := by omega
    exact .inr ⟨j, h2, h3⟩
theorem pkO_no (x : CZ2) (hft : ¬ pkF x <= pkT x) : ∀ k, pkO x k = zHul
 | 0 => rfl
 | k + 1 => by
  show (bif decide (pkT x >= pkF x) then pkI x k (pkO x k) (x.a.c.ms.length - k) else pkO x k) = zHul
  rw [decide_eq_false hft]; exact pkO_no x hft k
theorem peak_is {x : CZ2} (h : ChOk x.a.c) (hr : readE x.a = 0) (ht : x.f <= x.t) : HulIs (pkO x x.a.c.ms.length) (PkS x) := by
 by_cases hft : pkF x <= pkT x
 ·refine (pkO_is x hft _).ext λ s => ⟨?_, ?_⟩
  ·rintro ⟨a, j, h1, h2, h3, h4⟩
   obtain ⟨u, u1, u2⟩ := (win_iff h hr (show a <= a + j by omega) (by omega) hft).1 h3
   exact ⟨u, u1, a, a + j, by omega, by omega, u2, h4⟩
  ·rintro ⟨u, u1, i, j, h1, h2, h3, h4⟩
   refine ⟨i, j - i, by omega, by omega, ?_, ?_⟩
   ·rw [show i + (j - i) = j by omega]; exact (win_iff h hr h1 h2 hft).2 ⟨u, u1, h3⟩
   ·rw [show i + (j - i) = j by omega]; exact h4
 ·rw [pkO_no x hft]
  refine HulIs.zero ?_
  rintro s ⟨u, u1, i, j, h1, h2, h3, h4⟩
  have b := u1.bd h (show i < _ by omega)
  have w := (h3 i (by omega)).2 ⟨Nat.le_refl _, h1⟩
  refine hft ?_
  exact Int.le_trans (maxI_le.2 ⟨w.1, by omega⟩) (le_minI.2 ⟨w.2, by omega⟩)
theorem TrC.window {c : Cht} (h : ChOk c) {sp : Nat -> Bool} {u : Nat -> Int} (hu : TrC c sp u) {f t : Int} {k : Nat} (hk : k < c.ms.length) (hw : f <= u k /\ u k <= t) : ∃ i j, i <= k /\ k <= j /\ j < c.ms.length /\ inW c u f t i j := by
 have low : ∀ d, d <= k -> (f <= u (k - d)) -> (∀ i, i < k - d -> ¬ f <= u i) ∨ ∃ i, i < k - d /\ f <= u i := λ d _ _ => by
  by_cases q : ∃ i, i < k - d /\ f <= u i
  ·exact .inr q
  ·exact .inl λ i hi hf => q ⟨i, hi, hf⟩
 have ex1 : ∃ i, i <= k /\ f <= u i /\ ∀ m, m < i -> ¬ f <= u m := by
  have : ∀ n, ∀ k, k <= n -> f <= u k -> ∃ i, i <= k /\ f <= u i /\ ∀ m, m < i -> ¬ f <= u m := by
   intro n
   induction n with
   | zero => intro k hk hf; exact ⟨k, Nat.le_refl _, hf, λ m hm => by omega⟩
   | succ n ih =>
    intro k hk hf
    by_cases q : ∃ m, m < k /\ f <= u m
    ·obtain ⟨m, m1, m2⟩ := q
     obtain ⟨i, i1, i2⟩ := ih m (by omega) m2
     exact ⟨i, by omega, i2⟩
    ·exact ⟨k, Nat.le_refl _, hf, λ m hm hq => q ⟨m, hm, hq⟩⟩
  exact this k k (Nat.le_refl _) hw.1
 have ex2 : ∃ j, k <= j /\ j < c.ms.length /\ u j <= t /\ ∀ m, j < m -> m < c.ms.length -> ¬ u m <= t := by
  have : ∀ n, ∀ k, c.ms.length - k <= n -> k < c.ms.length -> u k <= t -> ∃ j, k <= j /\ j < c.ms.length /\ u j <= t /\ ∀ m, j < m -> m < c.ms.length -> ¬ u m <= t := by
   intro n
   induction n with
   | zero => intro k hk hl hf; omega
   | succ n ih =>
    intro k hk hl hf
    by_cases q : ∃ m, k < m /\ m < c.ms.length /\ u m <= t
    ·obtain ⟨m, m1, m2, m3⟩ := q
     obtain ⟨i, i1, i2⟩ := ih m (by omega) m2 m3
     exact ⟨i, by omega, i2⟩
    ·exact ⟨k, Nat.le_refl _, hl, hf, λ m hm hl hq => q ⟨m, hm, hl, hq⟩⟩
  exact this _ k (Nat.le_refl _) hk hw.2
 obtain ⟨i, i1, i2, i3⟩ := ex1
 obtain ⟨j, j1, j2, j3, j4⟩ := ex2
 refine ⟨i, j, i1, j1, j2, λ m hm => ⟨λ ⟨a, b⟩ => ⟨?_, ?_⟩, λ ⟨a, b⟩ => ⟨?_, ?_⟩⟩⟩
 ·exact Nat.le_of_not_lt λ q => i3 m q a
 ·exact Nat.le_of_not_lt λ q => j4 m q hm b
 ·exact Int.le_trans i2 (hu.le h a hm)
 ·exact Int.le_trans (hu.le h b j2) j3
theorem foldl_max : ∀ (l : List Int) (a : Int), a <= l.foldl maxI a /\ (∀ x ∈ l, x <= l.foldl maxI a) /\ (l.foldl maxI a = a ∨ l.foldl maxI a ∈ l)
 | [], a => ⟨Int.le_refl _, λ x h => (by cases h), .inl rfl⟩
 | y :: l, a => by
  obtain ⟨h1, h2, h3⟩ := foldl_max l (maxI a y)
  have m := maxI_ge a y
  show a <= l.foldl maxI (maxI a y) /\ (∀ x ∈ y :: l, x <= l.foldl maxI (maxI a y)) /\ (l.foldl maxI (maxI a y) = a ∨ l.foldl maxI (maxI a y) ∈ y :: l)
  refine ⟨by omega, λ x hx => ?_, ?_⟩
  ·rcases List.mem_cons.1 hx with e | hx
   ·subst e; omega
   ·exact h2 x hx
  ·rcases h3 with h3 | h3
   ·rw [h3]
    rcases maxI_or2 a y with ⟨q, _⟩ | ⟨q, _⟩
    ·exact .inl q
    ·rw [q]; exact .inr (List.mem_cons_self ..)
   ·exact .inr (List.mem_cons_of_mem _ h3)
theorem gLo_is {l : List Span} (h : 0 < l.length) : (∀ i, i < l.length -> (gD l i).lo <= gLo l) /\ ∃ i, i < l.length /\ gLo l = (gD l i).lo := by
 obtain ⟨h1, h2, h3⟩ := foldl_max (l.map (·.lo)) (gD l 0).lo
 refine ⟨λ i hi => h2 _ (List.mem_map.2 ⟨gD l i, gD_mem hi, rfl⟩), ?_⟩
 rcases h3 with h3 | h3
 ·exact ⟨0, h, h3⟩
 ·obtain ⟨s, s1, s2⟩ := List.mem_map.1 h3
  obtain ⟨i, i1, i2⟩ := mem_gD s1
  exact ⟨i, i1, by rw [i2]; exact s2.symm⟩
theorem gHi_is {l : List Span} (h : 0 < l.length) : (∀ i, i < l.length -> (gD l i).hi <= gHi l) /\ ∃ i, i < l.length /\ gHi l = (gD l i).hi := by
 obtain ⟨h1, h2, h3⟩ := foldl_max (l.map (·.hi)) (gD l 0).hi
 refine ⟨λ i hi => h2 _ (List.mem_map.2 ⟨gD l i, gD_mem hi, rfl⟩), ?_⟩
 rcases h3 with h3 | h3
 ·exact ⟨0, h, h3⟩
 ·obtain ⟨s, s1, s2⟩ := List.mem_map.1 h3
  obtain ⟨i, i1, i2⟩ := mem_gD s1
  exact ⟨i, i1, by rw [i2]; exact s2.symm⟩
theorem sli_len (x : CZ2) (i j : Nat) : (sliS x i j).length = j + 1 - i := rng_length _ _
theorem sli_at (x : CZ2) {i j k : Nat} (h : k < j + 1 - i) : gD (sliS x i j) k = gD (stgL x.a.c) (i + k) := rng_get _ _ _ h
def FsS (a : CZ) (t : Int) (k : Nat) (s : Span) : Prop := ∃ i, i < k /\ s = gD (tmL a) i /\ t <= (gD (stgL a.c) i).hi /\ ∀ j, j < i -> (gD (stgL a.c) j).lo < t
theorem fs_is {x : CZI} (hle : ∀ i, i < x.a.c.ms.length -> (gD (stgL x.a.c) i).lo <= (gD (stgL x.a.c) i).hi) : ∀ k, k <= x.a.c.ms.length -> HulIs (fsM x k).1 (FsS x.a x.t k) /\ ((fsM x k).2 = true ↔ ∃ i, i < k /\ x.t <= (gD (stgL x.a.c) i).lo)
 | 0, _ => ⟨HulIs.zero λ s ⟨i, h, _⟩ => absurd h (Nat.not_lt_zero _), ⟨λ h => (by cases h), λ ⟨i, h, _⟩ => absurd h (Nat.not_lt_zero _)⟩⟩
 | k + 1, hk => by
  obtain ⟨ih, is⟩ := fs_is hle k (by omega)
  have hl := hle k (by omega)
  have e : fsM x (k + 1) = bif (fsM x k).2 then fsM x k else bif decide ((gD (stgL x.a.c) k).hi >= x.t) then (hadM (fsM x k).1 (gD (tmL x.a) k), decide ((gD (stgL x.a.c) k).lo >= x.t)) else fsM x k := rfl
  rw [e]
  cases hs : (fsM x k).2 with
  | true =>
   obtain ⟨m, m1, m2⟩ := is.1 hs
   refine ⟨ih.ext λ s => ⟨λ ⟨i, h1, h2⟩ => ⟨i, by omega, h2⟩, λ ⟨i, h1, h2, h3, h4⟩ => ?_⟩, ⟨λ _ => ⟨m, by omega, m2⟩, λ _ => hs⟩⟩
   rcases Nat.lt_or_ge i k with q | q
   ·exact ⟨i, q, h2, h3, h4⟩
   ·have := h4 m (by omega); omega
  | false =>
   have no : ∀ i, i < k -> (gD (stgL x.a.c) i).lo < x.t := λ i hi => by
    refine Classical.byContradiction λ q => ?_
    rw [is.2 ⟨i, hi, by omega⟩] at hs; cases hs
   show HulIs (bif decide ((gD (stgL x.a.c) k).hi >= x.t) then (hadM (fsM x k).1 (gD (tmL x.a) k), decide ((gD (stgL x.a.c) k).lo >= x.t)) else fsM x k).1 _ /\ ((bif decide ((gD (stgL x.a.c) k).hi >= x.t) then (hadM (fsM x k).1 (gD (tmL x.a) k), decide ((gD (stgL x.a.c) k).lo >= x.t)) else fsM x k).2 = true ↔ _)
   by_cases q : (gD (stgL x.a.c) k).hi >= x.t
   ·rw [decide_eq_true q]
    refine ⟨(ih.add (gD (tmL x.a) k)).ext λ s => ⟨?_, ?_⟩, ?_⟩
    ·rintro (⟨i, h1, h2⟩ | h)
     ·exact ⟨i, by omega, h2⟩
     ·exact ⟨k, Nat.lt_succ_self _, h, q, no⟩
    ·rintro ⟨i, h1, h2, h3, h4⟩
     rcases Nat.lt_or_ge i k with r | r
     ·exact .inl ⟨i, r, h2, h3, h4⟩
     ·obtain rfl : i = k := by omega
      exact .inr h2
    ·show decide ((gD (stgL x.a.c) k).lo >= x.t) = true ↔ _
     rw [decide_eq_true_eq]
     constructor
     ·intro h; exact ⟨k, Nat.lt_succ_self _, h⟩
     ·rintro ⟨i, h1, h2⟩
      rcases Nat.lt_or_ge i k with r | r
      ·have := no i r; omega
      ·obtain rfl : i = k := by omega
       exact h2
   ·rw [decide_eq_false q]
    refine ⟨ih.ext λ s => ⟨λ ⟨i, h1, h2⟩ => ⟨i, by omega, h2⟩, λ ⟨i, h1, h2, h3, h4⟩ => ?_⟩, ?_⟩
    ·rcases Nat.lt_or_ge i k with r | r
     ·exact ⟨i, r, h2, h3, h4⟩
     ·obtain rfl : i = k := by omega
      omega
    ·show (fsM x k).2 = true ↔ _
     rw [is]
     constructor
     ·rintro ⟨i, h1, h2⟩; exact ⟨i, by omega, h2⟩
     ·rintro ⟨i, h1, h2⟩
      rcases Nat.lt_or_ge i k with r | r
      ·exact ⟨i, r, h2⟩
      ·obtain rfl : i = k := by omega
       omega
theorem FsS_ex {a : CZ} {t : Int} (hle : ∀ i, i < a.c.ms.length -> (gD (stgL a.c) i).lo <= (gD (stgL a.c) i).hi) : ∀ k, k <= a.c.ms.length -> ((∃ s, FsS a t k s) ↔ ∃ i, i < k /\ t <= (gD (stgL a.c) i).hi) := by
 intro k hk
 constructor
 ·rintro ⟨s, i, h1, _, h3, _⟩; exact ⟨i, h1, h3⟩
 ·rintro ⟨i, h1, h2⟩
  have : ∀ n, ∀ i, i <= n -> i < k -> t <= (gD (stgL a.c) i).hi -> ∃ s, FsS a t k s := by
   intro n
   induction n with
   | zero => intro i hi h1 h2; exact ⟨_, i, h1, rfl, h2, λ j hj => by omega⟩
   | succ n ih =>
    intro i hi h1 h2
    by_cases q : ∃ j, j < i /\ t <= (gD (stgL a.c) j).hi
    ·obtain ⟨j, j1, j2⟩ := q
     exact ih j (by omega) (by omega) j2
    ·refine ⟨_, i, h1, rfl, h2, λ j hj => ?_⟩
     have l := hle j (by omega)
     have : ¬ t <= (gD (stgL a.c) j).hi := λ r => q ⟨j, hj, r⟩
     omega
  exact this i i (Nat.le_refl _) h1 h2
end Go.Bal
