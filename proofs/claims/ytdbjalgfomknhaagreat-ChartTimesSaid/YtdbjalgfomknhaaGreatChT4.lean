/- Package chart: times of a chart, as truths (no program in sight). -/
import Derived.Test.YtdbjalgfomknhaaGreatChT2
import Derived.Test.YtdbjalgfomknhaaGreatChJ
import Derived.Test.YtdbjalgfomknhaaGreatChM
set_option linter.unusedVariables false
set_option linter.unusedSimpArgs false
namespace Go.Bal
open Go Go.Sym Go.Proofs
def WC (c : Cht) (g : Nat) : Int := (gD c.ms (g + 1)).pl - (gD c.ms g).pl
def gapP (c : Cht) (sp : Nat -> Bool) (g : Nat) : Span := ⟨c.p.lo * WC c g, bif sp g then 200000000 else c.p.hi * WC c g⟩
theorem ChOk.far {c : Cht} (h : ChOk c) {g : Nat} (hg : g + 1 < c.ms.length) : 1 <= WC c g /\ WC c g <= 10000 := by
 have h1 := h.up g hg
 have h2 := h.mks g (by omega)
 have h3 := h.mks (g + 1) hg
 unfold WC; omega
theorem ChOk.gap {c : Cht} (h : ChOk c) (sp : Nat -> Bool) {g : Nat} (hg : g + 1 < c.ms.length) : (1 <= c.p.lo * WC c g /\ c.p.lo * WC c g <= 6000000) /\ (c.p.lo * WC c g <= c.p.hi * WC c g /\ c.p.hi * WC c g <= 6000000) /\ (gapP c sp g).lo <= (gapP c sp g).hi := by
 obtain ⟨f1, f2⟩ := h.far hg
 obtain ⟨p1, p2, p3⟩ := h.p
 have a1 := mulb (a := c.p.lo) (b := WC c g) (A := 600) (B := 10000) (by omega) (by omega) (by omega) f2
 have a2 := mulb (a := c.p.hi) (b := WC c g) (A := 600) (B := 10000) (by omega) (by omega) (by omega) f2
 have a3 : c.p.lo * WC c g <= c.p.hi * WC c g := Int.mul_le_mul_of_nonneg_right p2 (by omega)
 have a4 : 1 * 1 <= c.p.lo * WC c g := Int.mul_le_mul p1 f1 (by omega) (by omega)
 refine ⟨by omega, by omega, ?_⟩
 show c.p.lo * WC c g <= bif sp g then 200000000 else c.p.hi * WC c g
 cases sp g
 ·exact a3
 ·show _ <= (200000000 : Int); omega
theorem Qp {w : Dk} (h : ChOk w.c) {g : Nat} (hg : g + 1 < w.c.ms.length) : HR w g = gapP w.c w.sp g := by
 obtain ⟨f1, f2⟩ := h.far hg
 obtain ⟨a1, a2, _⟩ := h.gap w.sp hg
 have e : farM w.c g = WC w.c g := by unfold farM wr; unfold WC at *; exact Bc (by omega) (by omega)
 unfold HR gapP
 rw [e]
 unfold wr
 rw [Bc (by omega) (by omega), Bc (by omega) (by omega)]
theorem pR {w : Dk} (h : ChOk w.c) : gpOk (HR w) (w.c.ms.length - 1) := λ g hg => by
 obtain ⟨a1, a2, a3⟩ := h.gap w.sp (g := g) (by omega)
 rw [Qp h (by omega)]
 refine ⟨⟨by show 0 <= w.c.p.lo * WC w.c g; omega, by show w.c.p.lo * WC w.c g <= _; omega⟩, by have : (gapP w.c w.sp g).lo = w.c.p.lo * WC w.c g := rfl; omega, ?_⟩
 show (bif w.sp g then 200000000 else w.c.p.hi * WC w.c g) <= _
 cases w.sp g
 ·show w.c.p.hi * WC w.c g <= _; omega
 ·show (200000000 : Int) <= _; omega
theorem rC {w : Dk} (h : ChOk w.c) : ∀ g, g < w.c.ms.length - 1 -> (HR w g).lo <= (HR w g).hi := λ g hg => by
 rw [Qp h (by omega)]; exact (h.gap w.sp (by omega)).2.2
theorem AAQ {c : Cht} (h : ChOk c) (j : Int) : kL 100000000 (S8 c j) /\ (S8 c j).lo <= (S8 c j).hi := by
 unfold S8
 cases hj : hasN c.ns j with
 | false => show kL 100000000 farS /\ farS.lo <= farS.hi; exact ⟨⟨by decide, by decide⟩, by decide⟩
 | true =>
  obtain ⟨hm, _⟩ := fC hj
  have := (h.nt _ hm).t
  refine ⟨?_, this.2.1⟩
  show kL _ (ntOf c.ns j).t
  unfold kL; omega
theorem Zr {c : Cht} {i : Nat} (hi : i < c.ms.length) : gD (XD c) i = S8 c i := FF _ _ _ hi
theorem Tr.ext2 {l l' s s' : Nat -> Span} {n : Nat} {t : Nat -> Int} (h : Tr l s n t) (h1 : ∀ i, i <= n -> l i = l' i) (h2 : ∀ g, g < n -> s g = s' g) : Tr l' s' n t := ⟨λ i hi => by rw [<- h1 i hi]; exact h.at_ i hi, λ g hg => by rw [<- h2 g hg]; exact h.gap g hg⟩
def TrC (c : Cht) (sp : Nat -> Bool) (t : Nat -> Int) : Prop := Tr (λ i => S8 c i) (gapP c sp) (c.ms.length - 1) t
theorem ABO {w : Dk} (h : ChOk w.c) {t : Nat -> Int} : Tr (gD (XD w.c)) (HR w) (w.c.ms.length - 1) t ↔ TrC w.c w.sp t := by
 have := h.m
 exact ⟨λ q => q.ext2 (λ i hi => Zr (by omega)) (λ g hg => Qp h (by omega)), λ q => q.ext2 (λ i hi => (Zr (by omega)).symm) (λ g hg => (Qp h (by omega)).symm)⟩
theorem ANI {c : Cht} (h : ChOk c) : ∀ i, i < (XD c).length -> kL 1000000000 (gD (XD c) i) := λ i hi => by
 rw [IS] at hi
 rw [Zr hi]
 have := (AAQ h i).1
 unfold kL at *; omega
theorem BCX {w : Dk} (h : ChOk w.c) : (GD w).2 = true ↔ ZV w.c = true /\ ∃ t, TrC w.c w.sp t := by
 have hm := h.m
 have hk := ASG (w := w) (l := XD w.c) (by rw [IS]; omega) (by rw [IS]; omega) (ANI h) (by rw [IS]; exact pR h) (by rw [IS]; exact rC h)
 rw [IS] at hk
 unfold GD
 cases hs : ZV w.c with
 | false => exact ⟨λ h => (by cases h), λ h => (by cases h.1)⟩
 | true =>
  show (OH w (XD w.c)).all Du = true ↔ _
  rw [hk]
  exact ⟨λ ⟨t, ht⟩ => ⟨rfl, t, (ABO h).1 ht⟩, λ ⟨_, t, ht⟩ => ⟨t, (ABO h).2 ht⟩⟩
theorem BFV {w : Dk} (h : ChOk w.c) (hk : (GD w).2 = true) {i : Nat} (hi : i < w.c.ms.length) {x : Int} : (gD (GD w).1 i).has x ↔ ∃ t, TrC w.c w.sp t /\ t i = x := by
 have hm := h.m
 obtain ⟨hs, t, ht⟩ := (BCX h).1 hk
 have e : (GD w).1 = OH w (XD w.c) := by unfold GD; rw [hs]; rfl
 have b1 := pR h
 have b2 := rC h
 rw [e, oY (by rw [IS]; omega) (by rw [IS]; omega) (ANI h) (by rw [IS]; exact b1) (by rw [IS]; exact hi), IS]
 rw [ANA b2 ((ABL b2).2 ⟨t, (ABO h).2 ht⟩) (by omega)]
 exact ⟨λ ⟨t, a, b⟩ => ⟨t, (ABO h).1 a, b⟩, λ ⟨t, a, b⟩ => ⟨t, (ABO h).2 a, b⟩⟩
theorem BAR {w : Dk} (hk : (GD w).2 = true) {i : Nat} (hi : i < w.c.ms.length) : (gD (GD w).1 i).lo <= (gD (GD w).1 i).hi := by
 unfold GD at hk ⊢
 cases hs : ZV w.c with
 | false => rw [hs] at hk; cases hk
 | true =>
  rw [hs] at hk
  have hk : (OH w (XD w.c)).all Du = true := hk
  exact Zu.1 hk i (by rw [Fz, IS]; exact hi)
end Go.Bal

namespace Go.Bal
open Go Go.Sym Go.Proofs
theorem AHP {a : CZ} (h : ChOk a.c) (hr : CF a = 0) {i : Nat} (hi : i < a.c.ms.length) {x : Int} : (gD (Uy a) i).has x ↔ ∃ t, TrC a.c (CV a).sp t /\ t i = x :=
 BFV (w := CV a) h (Qs hr).2.2 hi
theorem BWC {a : CZ} (hr : CF a = 0) {i : Nat} (hi : i < a.c.ms.length) : (gD (Uy a) i).lo <= (gD (Uy a) i).hi := BAR (w := CV a) (Qs hr).2.2 hi
theorem TrC.note {c : Cht} {sp : Nat -> Bool} {t : Nat -> Int} (h : TrC c sp t) {i : Nat} (hi : i < c.ms.length) : (S8 c i).has (t i) := h.at_ i (by omega)
theorem BHS {a : CZ} (h : ChOk a.c) (hr : CF a = 0) {i : Nat} (hi : i < a.c.ms.length) : kL 100000000 (gD (Uy a) i) := by
 have hle := BWC hr hi
 obtain ⟨t1, a1, b1⟩ := (AHP h hr hi).1 ⟨Int.le_refl _, hle⟩
 obtain ⟨t2, a2, b2⟩ := (AHP h hr hi).1 ⟨hle, Int.le_refl _⟩
 have c1 := a1.note hi
 have c2 := a2.note hi
 have d := (AAQ h i).1
 rw [b1] at c1; rw [b2] at c2
 unfold Span.has kL at *; omega
end Go.Bal

namespace Go.Bal
open Go Go.Sym Go.Proofs
theorem BIP (a b : Int) : PD a b = a /\ b <= a ∨ PD a b = b /\ a <= b := by unfold PD; split <;> omega
theorem BIG (a b : Int) : Bn a b = a /\ a <= b ∨ Bn a b = b /\ b <= a := by unfold Bn; split <;> omega
def HulIs (h : Hul) (S : Span -> Prop) : Prop := (h.m = true -> (∃ s, S s /\ s.lo = h.s.lo) /\ ∃ s, S s /\ s.hi = h.s.hi) /\ ∀ s, S s -> h.m = true /\ h.s.lo <= s.lo /\ s.hi <= h.s.hi
theorem HulIs.zero {S : Span -> Prop} (h : ∀ s, ¬ S s) : HulIs zHul S := ⟨λ h => (by cases h), λ s hs => absurd hs (h s)⟩
theorem HulIs.ext {h : Hul} {S T : Span -> Prop} (hs : HulIs h S) (e : ∀ s, S s ↔ T s) : HulIs h T :=
 ⟨λ hm => let ⟨⟨a, a1, a2⟩, b, b1, b2⟩ := hs.1 hm; ⟨⟨a, (e a).1 a1, a2⟩, b, (e b).1 b1, b2⟩, λ s q => hs.2 s ((e s).2 q)⟩
theorem HulIs.add {h : Hul} {S : Span -> Prop} (hs : HulIs h S) (x : Span) : HulIs (cN h x) λ s => S s ∨ s = x := by
 cases hm : h.m with
 | false =>
  have no : ∀ s, ¬ S s := λ s q => by have := (hs.2 s q).1; rw [hm] at this; cases this
  have e : cN h x = ⟨x, true⟩ := by unfold cN; rw [hm]; rfl
  rw [e]
  exact ⟨λ _ => ⟨⟨x, .inr rfl, rfl⟩, x, .inr rfl, rfl⟩, λ s q => q.elim (λ q => absurd q (no s)) λ q => by subst q; exact ⟨rfl, Int.le_refl _, Int.le_refl _⟩⟩
 | true =>
  have e : cN h x = ⟨⟨Bn x.lo h.s.lo, PD x.hi h.s.hi⟩, true⟩ := by unfold cN; rw [hm]; rfl
  obtain ⟨⟨a, a1, a2⟩, b, b1, b2⟩ := hs.1 hm
  have m1 := BLB x.lo h.s.lo
  have m2 := BKQ x.hi h.s.hi
  rw [e]
  refine ⟨λ _ => ⟨?_, ?_⟩, λ s q => ⟨rfl, ?_, ?_⟩⟩
  ·show ∃ s, (S s ∨ s = x) /\ s.lo = Bn x.lo h.s.lo
   rcases BIG x.lo h.s.lo with ⟨q, _⟩ | ⟨q, _⟩ <;> rw [q]
   ·exact ⟨x, .inr rfl, rfl⟩
   ·exact ⟨a, .inl a1, a2⟩
  ·show ∃ s, (S s ∨ s = x) /\ s.hi = PD x.hi h.s.hi
   rcases BIP x.hi h.s.hi with ⟨q, _⟩ | ⟨q, _⟩ <;> rw [q]
   ·exact ⟨x, .inr rfl, rfl⟩
   ·exact ⟨b, .inl b1, b2⟩
  ·show Bn x.lo h.s.lo <= s.lo
   rcases q with q | q
   ·have := (hs.2 s q).2; omega
   ·subst q; exact m1.1
  ·show s.hi <= PD x.hi h.s.hi
   rcases q with q | q
   ·have := (hs.2 s q).2; omega
   ·subst q; exact m2.1
theorem APG {a : CZ} (h : ChOk a.c) (hr : CF a = 0) {l : List Span} (hl : l.length = a.c.ms.length) (hb : ∀ i, i < a.c.ms.length -> kL 1000000000 (gD l i)) {Q : Nat -> Int -> Prop} (hq : ∀ i, i < a.c.ms.length -> ∀ x, (gD l i).has x ↔ (gD (Uy a) i).has x /\ Q i x) : (OH (CV a) l).all Du = true ↔ ∃ u, TrC a.c (CV a).sp u /\ ∀ i, i < a.c.ms.length -> Q i (u i) := by
 have hm := h.m
 have b1 : gpOk (HR (CV a)) (a.c.ms.length - 1) := pR (w := CV a) h
 have b2 : ∀ g, g < a.c.ms.length - 1 -> (HR (CV a) g).lo <= (HR (CV a) g).hi := rC (w := CV a) h
 rw [ASG (by omega) (by omega) (λ i hi => hb i (by omega)) (by rw [hl]; exact b1) (by rw [hl]; exact b2), hl]
 constructor
 ·rintro ⟨u, hu⟩
  refine ⟨u, ⟨λ i hi => ?_, λ k hk => ?_⟩, λ i hi => ((hq i hi _).1 (hu.at_ i (by omega))).2⟩
  ·obtain ⟨v, v1, v2⟩ := (AHP h hr (by omega)).1 ((hq i (by omega) _).1 (hu.at_ i hi)).1
   have := v1.note (i := i) (by omega)
   rw [v2] at this; exact this
  ·have := hu.gap k hk
   rw [Qp (w := CV a) h (by show k + 1 < a.c.ms.length; omega)] at this; exact this
 ·rintro ⟨u, hu, uq⟩
  refine ⟨u, λ i hi => (hq i (by omega) _).2 ⟨(AHP h hr (by omega)).2 ⟨u, hu, rfl⟩, uq i (by omega)⟩, λ k hk => ?_⟩
  have := hu.gap k hk
  rw [Qp (w := CV a) h (by show k + 1 < a.c.ms.length; omega)]; exact this
theorem TrC.bd {c : Cht} (h : ChOk c) {sp : Nat -> Bool} {u : Nat -> Int} (hu : TrC c sp u) {i : Nat} (hi : i < c.ms.length) : -100000000 <= u i /\ u i <= 100000000 := by
 have n := hu.note hi
 have b := (AAQ h (i : Int)).1
 unfold kL at b
 unfold Span.has at n
 omega
theorem TrC.inc {c : Cht} (h : ChOk c) {sp : Nat -> Bool} {u : Nat -> Int} (hu : TrC c sp u) {g : Nat} (hg : g + 1 < c.ms.length) : u g < u (g + 1) := by
 have a := (hu.gap g (by omega)).1
 have b := (h.gap sp hg).1
 have a : c.p.lo * WC c g <= u (g + 1) - u g := a
 omega
theorem TrC.lt {c : Cht} (h : ChOk c) {sp : Nat -> Bool} {u : Nat -> Int} (hu : TrC c sp u) {i : Nat} : ∀ {j : Nat}, i < j -> j < c.ms.length -> u i < u j
 | j + 1, hij, hj => by
  have := hu.inc h hj
  rcases Nat.lt_or_ge i j with q | q
  ·have := hu.lt h q (by omega); omega
  ·obtain rfl : i = j := by omega
   exact this
theorem TrC.le {c : Cht} (h : ChOk c) {sp : Nat -> Bool} {u : Nat -> Int} (hu : TrC c sp u) {i j : Nat} (hij : i <= j) (hj : j < c.ms.length) : u i <= u j := by
 rcases Nat.lt_or_ge i j with q | q
 ·exact Int.le_of_lt (hu.lt h q hj)
 ·obtain rfl : i = j := by omega
  exact Int.le_refl _
theorem AAV {c : Cht} {i : Nat} (hi : i < c.ms.length) : gD (Eg c) i = Dv c i := FF _ _ _ hi
end Go.Bal
