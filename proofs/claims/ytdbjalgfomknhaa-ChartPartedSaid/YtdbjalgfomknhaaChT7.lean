/- Package chart: the fewest stops are enough, and no fewer are (no program in sight). -/
import Derived.Test.YtdbjalgfomknhaaChT4
import Derived.Test.YtdbjalgfomknhaaChK
import Derived.Test.YtdbjalgfomknhaaChT6
import Derived.Test.YtdbjalgfomknhaaChJ
set_option linter.unusedVariables false
set_option linter.unusedSimpArgs false
namespace Go.Bal
open Go Go.Sym Go.Proofs
def plC (c : Cht) (i : Nat) : Int := (gD c.ms i).pl
theorem ChOk.pl_le {c : Cht} (h : ChOk c) {j k : Nat} (hjk : j <= k) (hk : k < c.ms.length) : plC c j <= plC c k := by
 induction k with
 | zero =>
  obtain rfl : j = 0 := by omega
  exact Int.le_refl _
 | succ k ih =>
  rcases Nat.lt_or_ge j (k + 1) with q | q
  ·have := ih (by omega) (by omega)
   have u := h.up k hk
   unfold plC at *; omega
  ·obtain rfl : j = k + 1 := by omega
   exact Int.le_refl _
theorem ChOk.pl_in {c : Cht} (h : ChOk c) {j k : Nat} (hj : j < c.ms.length) (hk : k < c.ms.length) : plC c k - plC c j <= 10000 /\ -10000 <= plC c k - plC c j := by
 have a := (h.mks j hj).1
 have b := (h.mks k hk).1
 unfold plC; omega
theorem TrC.upto {c : Cht} {sp : Nat -> Bool} {t : Nat -> Int} (h : TrC c sp t) {j : Nat} : ∀ {k : Nat}, j <= k -> k < c.ms.length -> (∀ g, j <= g -> g < k -> sp g = false) -> t k - t j <= c.p.hi * plC c k - c.p.hi * plC c j
 | 0, hj, _, _ => by
  obtain rfl : j = 0 := by omega
  omega
 | k + 1, hj, hk, hn => by
  rcases Nat.lt_or_ge j (k + 1) with q | q
  ·have ih := h.upto (j := j) (k := k) (by omega) (by omega) (λ g a b => hn g a (by omega))
   have g := (h.gap k (by omega)).2
   have g : t (k + 1) - t k <= bif sp k then 200000000 else c.p.hi * (plC c (k + 1) - plC c k) := g
   rw [hn k (by omega) (by omega)] at g
   have g : t (k + 1) - t k <= c.p.hi * (plC c (k + 1) - plC c k) := g
   rw [Int.mul_sub] at g
   omega
  ·obtain rfl : j = k + 1 := by omega
   omega
theorem CFB {c : Cht} (h : ChOk c) (j : Int) : (hasN c.ns j = true -> 0 <= (FT c j).lo /\ (FT c j).hi <= 10000000) /\ (hasN c.ns j = false -> FT c j = ⟨-100000000, 100000000⟩) := by
 unfold FT
 constructor
 ·intro hj
  rw [hj]
  have := (h.nt _ (Ax hj).1).t
  show 0 <= (ntOf c.ns j).t.lo /\ (ntOf c.ns j).t.hi <= 10000000
  omega
 ·intro hj; rw [hj]; rfl
theorem BXF (c : Cht) : (BC c).length = c.ns.length := by
 have := (AVU (HQ c) (idL c.ns.length)).length_eq
 unfold BC idL at *
 rw [this, rng_length]
theorem CFU (c : Cht) {i : Nat} (hi : i < c.ns.length) : ∃ j : Nat, j < c.ns.length /\ gD (BC c) i = (j : Int) := by
 have h : gD (BC c) i ∈ BC c := LZ (by rw [BXF]; exact hi)
 have h := ((AVU (HQ c) (idL c.ns.length)).mem_iff).1 h
 obtain ⟨j, hj, e⟩ := PN h
 unfold idL at hj e
 rw [rng_length] at hj
 rw [BH _ _ _ hj] at e
 exact ⟨j, hj, e.symm⟩
end Go.Bal

namespace Go.Bal
open Go Go.Sym Go.Proofs
theorem CNR (a b : Int) : DJ a b = a /\ b <= a ∨ DJ a b = b /\ a <= b := by unfold DJ; split <;> omega
theorem CLD (a b : Int) : JL a b = a /\ a <= b ∨ JL a b = b /\ b <= a := by unfold JL; split <;> omega
def HulIs (h : Hul) (S : Span -> Prop) : Prop := (h.m = true -> (∃ s, S s /\ s.lo = h.s.lo) /\ ∃ s, S s /\ s.hi = h.s.hi) /\ ∀ s, S s -> h.m = true /\ h.s.lo <= s.lo /\ s.hi <= h.s.hi
theorem HulIs.zero {S : Span -> Prop} (h : ∀ s, ¬ S s) : HulIs zHul S := ⟨λ h => (by cases h), λ s hs => absurd hs (h s)⟩
theorem HulIs.ext {h : Hul} {S T : Span -> Prop} (hs : HulIs h S) (e : ∀ s, S s ↔ T s) : HulIs h T :=
 ⟨λ hm => let ⟨⟨a, a1, a2⟩, b, b1, b2⟩ := hs.1 hm; ⟨⟨a, (e a).1 a1, a2⟩, b, (e b).1 b1, b2⟩, λ s q => hs.2 s ((e s).2 q)⟩
theorem HulIs.add {h : Hul} {S : Span -> Prop} (hs : HulIs h S) (x : Span) : HulIs (LC h x) λ s => S s ∨ s = x := by
 cases hm : h.m with
 | false =>
  have no : ∀ s, ¬ S s := λ s q => by have := (hs.2 s q).1; rw [hm] at this; cases this
  have e : LC h x = ⟨x, true⟩ := by unfold LC; rw [hm]; rfl
  rw [e]
  exact ⟨λ _ => ⟨⟨x, .inr rfl, rfl⟩, x, .inr rfl, rfl⟩, λ s q => q.elim (λ q => absurd q (no s)) λ q => by subst q; exact ⟨rfl, Int.le_refl _, Int.le_refl _⟩⟩
 | true =>
  have e : LC h x = ⟨⟨JL x.lo h.s.lo, DJ x.hi h.s.hi⟩, true⟩ := by unfold LC; rw [hm]; rfl
  obtain ⟨⟨a, a1, a2⟩, b, b1, b2⟩ := hs.1 hm
  have m1 := BTJ x.lo h.s.lo
  have m2 := ANF x.hi h.s.hi
  rw [e]
  refine ⟨λ _ => ⟨?_, ?_⟩, λ s q => ⟨rfl, ?_, ?_⟩⟩
  ·show ∃ s, (S s ∨ s = x) /\ s.lo = JL x.lo h.s.lo
   rcases CLD x.lo h.s.lo with ⟨q, _⟩ | ⟨q, _⟩ <;> rw [q]
   ·exact ⟨x, .inr rfl, rfl⟩
   ·exact ⟨a, .inl a1, a2⟩
  ·show ∃ s, (S s ∨ s = x) /\ s.hi = DJ x.hi h.s.hi
   rcases CNR x.hi h.s.hi with ⟨q, _⟩ | ⟨q, _⟩ <;> rw [q]
   ·exact ⟨x, .inr rfl, rfl⟩
   ·exact ⟨b, .inl b1, b2⟩
  ·show JL x.lo h.s.lo <= s.lo
   rcases q with q | q
   ·have := (hs.2 s q).2; omega
   ·subst q; exact m1.1
  ·show s.hi <= DJ x.hi h.s.hi
   rcases q with q | q
   ·have := (hs.2 s q).2; omega
   ·subst q; exact m2.1
theorem HulIs.who {h : Hul} {S : Span -> Prop} (hs : HulIs h S) : (∃ s, S s) /\ (GY h).2 = 0 /\ (GY h).1 = h.s /\ h.m = true ∨ (∀ s, ¬ S s) /\ GY h = (⟨0, 0⟩, 5) := by
 cases hm : h.m with
 | true =>
  obtain ⟨⟨a, a1, _⟩, _⟩ := hs.1 hm
  exact .inl ⟨⟨a, a1⟩, by unfold GY; rw [hm]; rfl, by unfold GY; rw [hm]; rfl, rfl⟩
 | false => exact .inr ⟨λ s q => (by have := (hs.2 s q).1; rw [hm] at this; cases this), by unfold GY; rw [hm]; rfl⟩
theorem HulIs.uniq {h k : Hul} {S : Span -> Prop} (hs : HulIs h S) (ks : HulIs k S) : GY h = GY k := by
 rcases hs.who with ⟨⟨s, q⟩, _, _, hm⟩ | ⟨no, e⟩
 ·have km := (ks.2 s q).1
  obtain ⟨⟨a, a1, a2⟩, b, b1, b2⟩ := hs.1 hm
  obtain ⟨⟨c, c1, c2⟩, d, d1, d2⟩ := ks.1 km
  have x1 := ks.2 a a1
  have x2 := ks.2 b b1
  have x3 := hs.2 c c1
  have x4 := hs.2 d d1
  have e : h.s = k.s := by
   obtain ⟨⟨p, q⟩, _⟩ := h
   obtain ⟨⟨u, v⟩, _⟩ := k
   simp only at *
   congr 1 <;> omega
  unfold GY; rw [hm, km, e]
 ·rcases ks.who with ⟨⟨s, q⟩, _⟩ | ⟨_, e2⟩
  ·exact absurd q (no s)
  ·rw [e, e2]
theorem TrC.bd {c : Cht} (h : ChOk c) {sp : Nat -> Bool} {u : Nat -> Int} (hu : TrC c sp u) {i : Nat} (hi : i < c.ms.length) : -100000000 <= u i /\ u i <= 100000000 := by
 have n := hu.note hi
 have b := (BSN h (i : Int)).1
 unfold O2 at b
 unfold Span.has at n
 omega
theorem TrC.inc {c : Cht} (h : ChOk c) {sp : Nat -> Bool} {u : Nat -> Int} (hu : TrC c sp u) {g : Nat} (hg : g + 1 < c.ms.length) : u g < u (g + 1) := by
 have a := (hu.gap g (by omega)).1
 have b := (h.gap sp hg).1
 have a : c.p.lo * JC c g <= u (g + 1) - u g := a
 omega
theorem TrC.lt {c : Cht} (h : ChOk c) {sp : Nat -> Bool} {u : Nat -> Int} (hu : TrC c sp u) {i : Nat} : ∀ {j : Nat}, i < j -> j < c.ms.length -> u i < u j
 | j + 1, hij, hj => by
  have := hu.inc h hj
  rcases Nat.lt_or_ge i j with q | q
  ·have := hu.lt h q (by omega); omega
  ·obtain rfl : i = j := by omega
   exact this
theorem TrC.le {c : Cht} (h : ChOk c) {sp : Nat -> Bool} {u : Nat -> Int} (hu : TrC c sp u) {i j : Nat} (hij : i <= j) (hj : j < c.ms.length) : u i <= u j := by
 rcases Nat.lt_or_ge i j with q | q
 ·exact Int.le_of_lt (hu.lt h q hj)
 ·obtain rfl : i = j := by omega
  exact Int.le_refl _
theorem HF {c : Cht} {i : Nat} (hi : i < c.ms.length) : gD (stgL c) i = DZ c i := BH _ _ _ hi
def StS (a : CZ) (t : Int) (s : Span) : Prop := ∃ u, TrC a.c (AI a).sp u /\ ((∃ i, i < a.c.ms.length /\ u i = t /\ s = gD (stgL a.c) i) ∨ ∃ g, g + 1 < a.c.ms.length /\ (u g <= t - 1 /\ t + 1 <= u (g + 1)) /\ (s = gD (stgL a.c) g ∨ s = gD (stgL a.c) (g + 1)))
theorem BRI (a : CZ) (t : Int) : ∀ k, HulIs (HJ a t k) λ s => ∃ i, i < k /\ (gD (CJ a) i).has t /\ s = gD (stgL a.c) i
 | 0 => HulIs.zero λ s ⟨i, h, _⟩ => absurd h (Nat.not_lt_zero _)
 | k + 1 => by
  have ih := BRI a t k
  show HulIs (bif HK t (gD (CJ a) k).lo (gD (CJ a) k).hi then LC (HJ a t k) (gD (stgL a.c) k) else HJ a t k) _
  cases hi : HK t (gD (CJ a) k).lo (gD (CJ a) k).hi with
  | true =>
   refine (ih.add (gD (stgL a.c) k)).ext λ s => ⟨?_, ?_⟩
   ·rintro (⟨i, h1, h2⟩ | h)
    ·exact ⟨i, by omega, h2⟩
    ·exact ⟨k, Nat.lt_succ_self _, DB.1 hi, h⟩
   ·rintro ⟨i, h1, h2, h3⟩
    rcases Nat.lt_or_ge i k with q | q
    ·exact .inl ⟨i, q, h2, h3⟩
    ·obtain rfl : i = k := by omega
     exact .inr h3
  | false =>
   refine ih.ext λ s => ⟨λ ⟨i, h1, h2⟩ => ⟨i, by omega, h2⟩, ?_⟩
   rintro ⟨i, h1, h2, h3⟩
   rcases Nat.lt_or_ge i k with q | q
   ·exact ⟨i, q, h2, h3⟩
   ·obtain rfl : i = k := by omega
    rw [DB.2 h2] at hi; cases hi
theorem CEW (a : CZ) (t : Int) : ∀ k, HulIs (JD a t k) λ s => (∃ i, i < a.c.ms.length /\ (gD (CJ a) i).has t /\ s = gD (stgL a.c) i) ∨ ∃ g, g < k /\ Of a t g = true /\ (s = gD (stgL a.c) g ∨ s = gD (stgL a.c) (g + 1))
 | 0 => (BRI a t a.c.ms.length).ext λ s => ⟨.inl, λ h => h.elim id λ ⟨g, h, _⟩ => absurd h (Nat.not_lt_zero _)⟩
 | k + 1 => by
  have ih := CEW a t k
  show HulIs (bif Of a t k then LC (LC (JD a t k) (gD (stgL a.c) k)) (gD (stgL a.c) (k + 1)) else JD a t k) _
  cases hi : Of a t k with
  | true =>
   refine ((ih.add (gD (stgL a.c) k)).add (gD (stgL a.c) (k + 1))).ext λ s => ⟨?_, ?_⟩
   ·rintro (((h | ⟨g, h1, h2⟩) | h) | h)
    ·exact .inl h
    ·exact .inr ⟨g, by omega, h2⟩
    ·exact .inr ⟨k, Nat.lt_succ_self _, hi, .inl h⟩
    ·exact .inr ⟨k, Nat.lt_succ_self _, hi, .inr h⟩
   ·rintro (h | ⟨g, h1, h2, h3⟩)
    ·exact .inl (.inl (.inl h))
    ·rcases Nat.lt_or_ge g k with q | q
     ·exact .inl (.inl (.inr ⟨g, q, h2, h3⟩))
     ·obtain rfl : g = k := by omega
      rcases h3 with h3 | h3
      ·exact .inl (.inr h3)
      ·exact .inr h3
  | false =>
   refine ih.ext λ s => ⟨λ h => h.elim .inl λ ⟨g, h1, h2⟩ => .inr ⟨g, by omega, h2⟩, ?_⟩
   rintro (h | ⟨g, h1, h2, h3⟩)
   ·exact .inl h
   ·rcases Nat.lt_or_ge g k with q | q
    ·exact .inr ⟨g, q, h2, h3⟩
    ·obtain rfl : g = k := by omega
     rw [h2] at hi; cases hi
theorem Rf {a : CZ} (h : ChOk a.c) (hr : AS a = 0) (t : Int) : HulIs (Jf ⟨a, t⟩) (StS a t) := by
 have hm := h.m
 have one : ∀ s, (∃ i, i < a.c.ms.length /\ (gD (CJ a) i).has t /\ s = gD (stgL a.c) i) ↔ ∃ u, TrC a.c (AI a).sp u /\ ∃ i, i < a.c.ms.length /\ u i = t /\ s = gD (stgL a.c) i := λ s => by
  constructor
  ·rintro ⟨i, h1, h2, h3⟩
   obtain ⟨u, u1, u2⟩ := (fT h hr h1).1 h2
   exact ⟨u, u1, i, h1, u2, h3⟩
  ·rintro ⟨u, u1, i, h1, u2, h3⟩
   exact ⟨i, h1, (fT h hr h1).2 ⟨u, u1, u2⟩, h3⟩
 unfold Jf
 cases hi : HK t (-100000000) 100000000 with
 | false =>
  refine (BRI a t a.c.ms.length).ext λ s => ?_
  rw [one s]
  constructor
  ·rintro ⟨u, u1, u2⟩; exact ⟨u, u1, .inl u2⟩
  ·rintro ⟨u, u1, u2 | ⟨g, g1, ⟨g2, g3⟩, _⟩⟩
   ·exact ⟨u, u1, u2⟩
   ·have b1 := u1.bd h (i := g) (by omega)
    have b2 := u1.bd h g1
    rw [DB.2 (by omega)] at hi; cases hi
 | true =>
  have ht := DB.1 hi
  refine (CEW a t (a.c.ms.length - 1)).ext λ s => ?_
  rw [one s]
  constructor
  ·rintro (⟨u, u1, u2⟩ | ⟨g, g1, g2, g3⟩)
   ·exact ⟨u, u1, .inl u2⟩
   ·obtain ⟨u, u1, u2⟩ := (CCV h hr (show g + 1 < _ by omega) ht).1 g2
    exact ⟨u, u1, .inr ⟨g, by omega, u2, g3⟩⟩
  ·rintro ⟨u, u1, u2 | ⟨g, g1, g2, g3⟩⟩
   ·exact .inl ⟨u, u1, u2⟩
   ·exact .inr ⟨g, by omega, (CCV h hr g1 ht).2 ⟨u, u1, g2⟩, g3⟩
end Go.Bal
