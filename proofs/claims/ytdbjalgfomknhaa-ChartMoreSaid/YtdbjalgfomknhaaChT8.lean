/- Package chart: what Stage, Peak and First return, by truths (no program in sight). -/
import Derived.Test.YtdbjalgfomknhaaChT5
import Derived.Test.YtdbjalgfomknhaaChJ
import Derived.Test.YtdbjalgfomknhaaChT6
set_option linter.unusedVariables false
set_option linter.unusedSimpArgs false
namespace Go.Bal
open Go Go.Sym Go.Proofs
theorem CYQ (a b : Int) : BJ a b = a /\ b <= a ∨ BJ a b = b /\ a <= b := by unfold BJ; split <;> omega
theorem DBK (a b : Int) : IC a b = a /\ a <= b ∨ IC a b = b /\ b <= a := by unfold IC; split <;> omega
def HulIs (h : Hul) (S : Span -> Prop) : Prop := (h.m = true -> (∃ s, S s /\ s.lo = h.s.lo) /\ ∃ s, S s /\ s.hi = h.s.hi) /\ ∀ s, S s -> h.m = true /\ h.s.lo <= s.lo /\ s.hi <= h.s.hi
theorem HulIs.zero {S : Span -> Prop} (h : ∀ s, ¬ S s) : HulIs zHul S := ⟨λ h => (by cases h), λ s hs => absurd hs (h s)⟩
theorem HulIs.ext {h : Hul} {S T : Span -> Prop} (hs : HulIs h S) (e : ∀ s, S s ↔ T s) : HulIs h T :=
 ⟨λ hm => let ⟨⟨a, a1, a2⟩, b, b1, b2⟩ := hs.1 hm; ⟨⟨a, (e a).1 a1, a2⟩, b, (e b).1 b1, b2⟩, λ s q => hs.2 s ((e s).2 q)⟩
theorem HulIs.add {h : Hul} {S : Span -> Prop} (hs : HulIs h S) (x : Span) : HulIs (MJ h x) λ s => S s ∨ s = x := by
 cases hm : h.m with
 | false =>
  have no : ∀ s, ¬ S s := λ s q => by have := (hs.2 s q).1; rw [hm] at this; cases this
  have e : MJ h x = ⟨x, true⟩ := by unfold MJ; rw [hm]; rfl
  rw [e]
  exact ⟨λ _ => ⟨⟨x, .inr rfl, rfl⟩, x, .inr rfl, rfl⟩, λ s q => q.elim (λ q => absurd q (no s)) λ q => by subst q; exact ⟨rfl, Int.le_refl _, Int.le_refl _⟩⟩
 | true =>
  have e : MJ h x = ⟨⟨IC x.lo h.s.lo, BJ x.hi h.s.hi⟩, true⟩ := by unfold MJ; rw [hm]; rfl
  obtain ⟨⟨a, a1, a2⟩, b, b1, b2⟩ := hs.1 hm
  have m1 := CFV x.lo h.s.lo
  have m2 := jN x.hi h.s.hi
  rw [e]
  refine ⟨λ _ => ⟨?_, ?_⟩, λ s q => ⟨rfl, ?_, ?_⟩⟩
  ·show ∃ s, (S s ∨ s = x) /\ s.lo = IC x.lo h.s.lo
   rcases DBK x.lo h.s.lo with ⟨q, _⟩ | ⟨q, _⟩ <;> rw [q]
   ·exact ⟨x, .inr rfl, rfl⟩
   ·exact ⟨a, .inl a1, a2⟩
  ·show ∃ s, (S s ∨ s = x) /\ s.hi = BJ x.hi h.s.hi
   rcases CYQ x.hi h.s.hi with ⟨q, _⟩ | ⟨q, _⟩ <;> rw [q]
   ·exact ⟨x, .inr rfl, rfl⟩
   ·exact ⟨b, .inl b1, b2⟩
  ·show IC x.lo h.s.lo <= s.lo
   rcases q with q | q
   ·have := (hs.2 s q).2; omega
   ·subst q; exact m1.1
  ·show s.hi <= BJ x.hi h.s.hi
   rcases q with q | q
   ·have := (hs.2 s q).2; omega
   ·subst q; exact m2.1
theorem HulIs.who {h : Hul} {S : Span -> Prop} (hs : HulIs h S) : (∃ s, S s) /\ (IF h).2 = 0 /\ (IF h).1 = h.s /\ h.m = true ∨ (∀ s, ¬ S s) /\ IF h = (⟨0, 0⟩, 5) := by
 cases hm : h.m with
 | true =>
  obtain ⟨⟨a, a1, _⟩, _⟩ := hs.1 hm
  exact .inl ⟨⟨a, a1⟩, by unfold IF; rw [hm]; rfl, by unfold IF; rw [hm]; rfl, rfl⟩
 | false => exact .inr ⟨λ s q => (by have := (hs.2 s q).1; rw [hm] at this; cases this), by unfold IF; rw [hm]; rfl⟩
theorem TrC.bd {c : Cht} (h : ChOk c) {sp : Nat -> Bool} {u : Nat -> Int} (hu : TrC c sp u) {i : Nat} (hi : i < c.ms.length) : -100000000 <= u i /\ u i <= 100000000 := by
 have n := hu.note hi
 have b := (AEJ h (i : Int)).1
 unfold U0 at b
 unfold Span.has at n
 omega
theorem TrC.inc {c : Cht} (h : ChOk c) {sp : Nat -> Bool} {u : Nat -> Int} (hu : TrC c sp u) {g : Nat} (hg : g + 1 < c.ms.length) : u g < u (g + 1) := by
 have a := (hu.gap g (by omega)).1
 have b := (h.gap sp hg).1
 have a : c.p.lo * HY c g <= u (g + 1) - u g := a
 omega
theorem TrC.lt {c : Cht} (h : ChOk c) {sp : Nat -> Bool} {u : Nat -> Int} (hu : TrC c sp u) {i : Nat} : ∀ {j : Nat}, i < j -> j < c.ms.length -> u i < u j
 | j + 1, hij, hj => by
  have := hu.inc h hj
  rcases Nat.lt_or_ge i j with q | q
  ·have := hu.lt h q (by omega); omega
  ·obtain rfl : i = j := by omega
   exact this
theorem TrC.le {c : Cht} (h : ChOk c) {sp : Nat -> Bool} {u : Nat -> Int} (hu : TrC c sp u) {i j : Nat} (hij : i <= j) (hj : j < c.ms.length) : u i <= u j := by
 rcases Nat.lt_or_ge i j with q | q
 ·exact Int.le_of_lt (hu.lt h q hj)
 ·obtain rfl : i = j := by omega
  exact Int.le_refl _
theorem BGE {c : Cht} {i : Nat} (hi : i < c.ms.length) : gD (BA c) i = HD c i := CB _ _ _ hi
def StS (a : CZ) (t : Int) (s : Span) : Prop := ∃ u, TrC a.c (AI a).sp u /\ ((∃ i, i < a.c.ms.length /\ u i = t /\ s = gD (BA a.c) i) ∨ ∃ g, g + 1 < a.c.ms.length /\ (u g <= t - 1 /\ t + 1 <= u (g + 1)) /\ (s = gD (BA a.c) g ∨ s = gD (BA a.c) (g + 1)))
theorem CJD (a : CZ) (t : Int) : ∀ k, HulIs (IG a t k) λ s => ∃ i, i < k /\ (gD (CK a) i).has t /\ s = gD (BA a.c) i
 | 0 => HulIs.zero λ s ⟨i, h, _⟩ => absurd h (Nat.not_lt_zero _)
 | k + 1 => by
  have ih := CJD a t k
  show HulIs (bif IE t (gD (CK a) k).lo (gD (CK a) k).hi then MJ (IG a t k) (gD (BA a.c) k) else IG a t k) _
  cases hi : IE t (gD (CK a) k).lo (gD (CK a) k).hi with
  | true =>
   refine (ih.add (gD (BA a.c) k)).ext λ s => ⟨?_, ?_⟩
   ·rintro (⟨i, h1, h2⟩ | h)
    ·exact ⟨i, by omega, h2⟩
    ·exact ⟨k, Nat.lt_succ_self _, CV.1 hi, h⟩
   ·rintro ⟨i, h1, h2, h3⟩
    rcases Nat.lt_or_ge i k with q | q
    ·exact .inl ⟨i, q, h2, h3⟩
    ·obtain rfl : i = k := by omega
     exact .inr h3
  | false =>
   refine ih.ext λ s => ⟨λ ⟨i, h1, h2⟩ => ⟨i, by omega, h2⟩, ?_⟩
   rintro ⟨i, h1, h2, h3⟩
   rcases Nat.lt_or_ge i k with q | q
   ·exact ⟨i, q, h2, h3⟩
   ·obtain rfl : i = k := by omega
    rw [CV.2 h2] at hi; cases hi
theorem CVT (a : CZ) (t : Int) : ∀ k, HulIs (KH a t k) λ s => (∃ i, i < a.c.ms.length /\ (gD (CK a) i).has t /\ s = gD (BA a.c) i) ∨ ∃ g, g < k /\ Yy a t g = true /\ (s = gD (BA a.c) g ∨ s = gD (BA a.c) (g + 1))
 | 0 => (CJD a t a.c.ms.length).ext λ s => ⟨.inl, λ h => h.elim id λ ⟨g, h, _⟩ => absurd h (Nat.not_lt_zero _)⟩
 | k + 1 => by
  have ih := CVT a t k
  show HulIs (bif Yy a t k then MJ (MJ (KH a t k) (gD (BA a.c) k)) (gD (BA a.c) (k + 1)) else KH a t k) _
  cases hi : Yy a t k with
  | true =>
   refine ((ih.add (gD (BA a.c) k)).add (gD (BA a.c) (k + 1))).ext λ s => ⟨?_, ?_⟩
   ·rintro (((h | ⟨g, h1, h2⟩) | h) | h)
    ·exact .inl h
    ·exact .inr ⟨g, by omega, h2⟩
    ·exact .inr ⟨k, Nat.lt_succ_self _, hi, .inl h⟩
    ·exact .inr ⟨k, Nat.lt_succ_self _, hi, .inr h⟩
   ·rintro (h | ⟨g, h1, h2, h3⟩)
    ·exact .inl (.inl (.inl h))
    ·rcases Nat.lt_or_ge g k with q | q
     ·exact .inl (.inl (.inr ⟨g, q, h2, h3⟩))
     ·obtain rfl : g = k := by omega
      rcases h3 with h3 | h3
      ·exact .inl (.inr h3)
      ·exact .inr h3
  | false =>
   refine ih.ext λ s => ⟨λ h => h.elim .inl λ ⟨g, h1, h2⟩ => .inr ⟨g, by omega, h2⟩, ?_⟩
   rintro (h | ⟨g, h1, h2, h3⟩)
   ·exact .inl h
   ·rcases Nat.lt_or_ge g k with q | q
    ·exact .inr ⟨g, q, h2, h3⟩
    ·obtain rfl : g = k := by omega
     rw [h2] at hi; cases hi
theorem CNR {a : CZ} (h : ChOk a.c) (hr : AS a = 0) (t : Int) : HulIs (Lk ⟨a, t⟩) (StS a t) := by
 have hm := h.m
 have one : ∀ s, (∃ i, i < a.c.ms.length /\ (gD (CK a) i).has t /\ s = gD (BA a.c) i) ↔ ∃ u, TrC a.c (AI a).sp u /\ ∃ i, i < a.c.ms.length /\ u i = t /\ s = gD (BA a.c) i := λ s => by
  constructor
  ·rintro ⟨i, h1, h2, h3⟩
   obtain ⟨u, u1, u2⟩ := (rU h hr h1).1 h2
   exact ⟨u, u1, i, h1, u2, h3⟩
  ·rintro ⟨u, u1, i, h1, u2, h3⟩
   exact ⟨i, h1, (rU h hr h1).2 ⟨u, u1, u2⟩, h3⟩
 unfold Lk
 cases hi : IE t (-100000000) 100000000 with
 | false =>
  refine (CJD a t a.c.ms.length).ext λ s => ?_
  rw [one s]
  constructor
  ·rintro ⟨u, u1, u2⟩; exact ⟨u, u1, .inl u2⟩
  ·rintro ⟨u, u1, u2 | ⟨g, g1, ⟨g2, g3⟩, _⟩⟩
   ·exact ⟨u, u1, u2⟩
   ·have b1 := u1.bd h (i := g) (by omega)
    have b2 := u1.bd h g1
    rw [CV.2 (by omega)] at hi; cases hi
 | true =>
  have ht := CV.1 hi
  refine (CVT a t (a.c.ms.length - 1)).ext λ s => ?_
  rw [one s]
  constructor
  ·rintro (⟨u, u1, u2⟩ | ⟨g, g1, g2, g3⟩)
   ·exact ⟨u, u1, .inl u2⟩
   ·obtain ⟨u, u1, u2⟩ := (CUA h hr (show g + 1 < _ by omega) ht).1 g2
    exact ⟨u, u1, .inr ⟨g, by omega, u2, g3⟩⟩
  ·rintro ⟨u, u1, u2 | ⟨g, g1, g2, g3⟩⟩
   ·exact .inl ⟨u, u1, u2⟩
   ·exact .inr ⟨g, by omega, (CUA h hr g1 ht).2 ⟨u, u1, g2⟩, g3⟩
end Go.Bal

namespace Go.Bal
open Go Go.Sym Go.Proofs
theorem V6 {a : CZ} (h : ChOk a.c) (hz : okZ a = true) (hs : HP a.c = true) {t : Nat -> Int} (ht : TrC a.c (AI a).sp t) : AS a = 0 := by
 unfold AS
 rw [CPI.2 h, hz, (WB (w := AI a) h).2 ⟨hs, t, ht⟩]; rfl
theorem MadeF.stg {a : MkI} (h : MadeF a) : HP (HT a) = true := BHJ.2 λ i hi => by
 rw [Ro] at hi
 rw [BGE hi]
 exact Int.le_trans (h.st i hi).1 (h.st i hi).2
theorem MadeF.read {a : MkI} (h : MadeF a) {z : List Int} (hz : okZ ⟨HT a, z⟩ = true) (hs : ∀ g ∈ (xZ a).z, g ∈ z) : AS ⟨HT a, z⟩ = 0 /\ TrC (HT a) (AI ⟨HT a, z⟩).sp (gD (xZ a).t) := by
 have t := h.tr (AI ⟨HT a, z⟩).sp λ g hg => (ACO (a := ⟨HT a, z⟩) h.ok.m hz g).2 (hs _ hg)
 exact ⟨V6 (a := ⟨HT a, z⟩) h.ok hz h.stg t, t⟩
theorem DIJ (v : Int) {n : Int} (hn : 1 <= n /\ n <= 1000000) : 0 <= MX v n /\ MX v n < n := by
 unfold MX
 rw [if_neg (by omega)]
 have h1 := Int.tmod_lt_of_pos v (show 0 < n by omega)
 have h2 : -n < v.tmod n := by
  have := Int.lt_tmod_of_pos v (show 0 < n by omega)
  omega
 split
 ·have e : wr (v.tmod n + n) = v.tmod n + n := EM (by omega) (by omega)
  rw [e]; omega
 ·omega
theorem DIO {bs : List Int} (h : ∀ i, i < bs.length -> 0 <= gD bs i /\ gD bs i <= 255) {m : Int} {b : Bool} (hm : 1 <= m /\ m <= 14) : preM ⟨⟨bs, 0, 0⟩, m, b⟩ := ⟨⟨⟨Int.le_refl _, Int.le_refl _⟩, ⟨Int.le_refl _, by show (0 : Int) < 251; omega⟩, h⟩, hm⟩
theorem CZY {bs : List Int} (h : ∀ i, i < bs.length -> 0 <= gD bs i /\ gD bs i <= 255) : StmB 0 ⟨bs, 0, 0⟩ := ⟨⟨Int.le_refl _, Int.le_refl _⟩, ⟨Int.le_refl _, by show (0 : Int) < 251; omega⟩, h⟩
end Go.Bal
