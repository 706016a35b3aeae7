/- Package chart: Holds. -/
import Derived.Test.YtdbjalgfomknhaaGreatChL
import Derived.Test.YtdbjalgfomknhaaGreatChT2
import Derived.Test.YtdbjalgfomknhaaGreatChJ
set_option linter.unusedVariables false
set_option linter.unusedSimpArgs false
namespace Go.Bal
open Go Go.Sym Go.Proofs
structure CT where
 c : Cht
 t : Tru
def hd1 (x : CT) (i : Nat) : Bool := TD (gD x.t.t i) (gD (Sz x.c) i).lo (gD (Sz x.c) i).hi && TD (gD x.t.s i) (bT x.c i).lo (bT x.c i).hi
end Go.Bal

namespace Go.Bal
open Go Go.Sym Go.Proofs
def RJ (c : Cht) (g : Nat) : Int := (gD c.ms (g + 1)).pl - (gD c.ms g).pl
def wE (c : Cht) (sp : Nat -> Bool) (g : Nat) : Span := ⟨c.p.lo * RJ c g, bif sp g then 200000000 else c.p.hi * RJ c g⟩
theorem ChOk.far {c : Cht} (h : ChOk c) {g : Nat} (hg : g + 1 < c.ms.length) : 1 <= RJ c g /\ RJ c g <= 10000 := by
 have h1 := h.up g hg
 have h2 := h.mks g (by omega)
 have h3 := h.mks (g + 1) hg
 unfold RJ; omega
theorem ChOk.gap {c : Cht} (h : ChOk c) (sp : Nat -> Bool) {g : Nat} (hg : g + 1 < c.ms.length) : (1 <= c.p.lo * RJ c g /\ c.p.lo * RJ c g <= 6000000) /\ (c.p.lo * RJ c g <= c.p.hi * RJ c g /\ c.p.hi * RJ c g <= 6000000) /\ (wE c sp g).lo <= (wE c sp g).hi := by
 obtain ⟨f1, f2⟩ := h.far hg
 obtain ⟨p1, p2, p3⟩ := h.p
 have a1 := mulb (a := c.p.lo) (b := RJ c g) (A := 600) (B := 10000) (by omega) (by omega) (by omega) f2
 have a2 := mulb (a := c.p.hi) (b := RJ c g) (A := 600) (B := 10000) (by omega) (by omega) (by omega) f2
 have a3 : c.p.lo * RJ c g <= c.p.hi * RJ c g := Int.mul_le_mul_of_nonneg_right p2 (by omega)
 have a4 : 1 * 1 <= c.p.lo * RJ c g := Int.mul_le_mul p1 f1 (by omega) (by omega)
 refine ⟨by omega, by omega, ?_⟩
 show c.p.lo * RJ c g <= bif sp g then 200000000 else c.p.hi * RJ c g
 cases sp g
 ·exact a3
 ·show _ <= (200000000 : Int); omega
theorem yJ {w : Dk} (h : ChOk w.c) {g : Nat} (hg : g + 1 < w.c.ms.length) : TM w g = wE w.c w.sp g := by
 obtain ⟨f1, f2⟩ := h.far hg
 obtain ⟨a1, a2, _⟩ := h.gap w.sp hg
 have e : farM w.c g = RJ w.c g := by unfold farM wr; unfold RJ at *; exact TC (by omega) (by omega)
 unfold TM wE
 rw [e]
 unfold wr
 rw [TC (by omega) (by omega), TC (by omega) (by omega)]
theorem AML {w : Dk} (h : ChOk w.c) : gpOk (TM w) (w.c.ms.length - 1) := λ g hg => by
 obtain ⟨a1, a2, a3⟩ := h.gap w.sp (g := g) (by omega)
 rw [yJ h (by omega)]
 refine ⟨⟨by show 0 <= w.c.p.lo * RJ w.c g; omega, by show w.c.p.lo * RJ w.c g <= _; omega⟩, by have : (wE w.c w.sp g).lo = w.c.p.lo * RJ w.c g := rfl; omega, ?_⟩
 show (bif w.sp g then 200000000 else w.c.p.hi * RJ w.c g) <= _
 cases w.sp g
 ·show w.c.p.hi * RJ w.c g <= _; omega
 ·show (200000000 : Int) <= _; omega
theorem ALF {w : Dk} (h : ChOk w.c) : ∀ g, g < w.c.ms.length - 1 -> (TM w g).lo <= (TM w g).hi := λ g hg => by
 rw [yJ h (by omega)]; exact (h.gap w.sp (by omega)).2.2
theorem yY {c : Cht} (h : ChOk c) (j : Int) : I6 100000000 (Xj c j) /\ (Xj c j).lo <= (Xj c j).hi := by
 unfold Xj
 cases hj : hasN c.ns j with
 | false => show I6 100000000 farS /\ farS.lo <= farS.hi; exact ⟨⟨by decide, by decide⟩, by decide⟩
 | true =>
  obtain ⟨hm, _⟩ := cL hj
  have := (h.nt _ hm).t
  refine ⟨?_, this.2.1⟩
  show I6 _ (ntOf c.ns j).t
  unfold I6; omega
theorem wP {c : Cht} {i : Nat} (hi : i < c.ms.length) : gD (Sz c) i = Xj c i := KL _ _ _ hi
theorem Tr.ext2 {l l' s s' : Nat -> Span} {n : Nat} {t : Nat -> Int} (h : Tr l s n t) (h1 : ∀ i, i <= n -> l i = l' i) (h2 : ∀ g, g < n -> s g = s' g) : Tr l' s' n t := ⟨λ i hi => by rw [<- h1 i hi]; exact h.at_ i hi, λ g hg => by rw [<- h2 g hg]; exact h.gap g hg⟩
def TrC (c : Cht) (sp : Nat -> Bool) (t : Nat -> Int) : Prop := Tr (λ i => Xj c i) (wE c sp) (c.ms.length - 1) t
theorem BHT {w : Dk} (h : ChOk w.c) {t : Nat -> Int} : Tr (gD (Sz w.c)) (TM w) (w.c.ms.length - 1) t ↔ TrC w.c w.sp t := by
 have := h.m
 exact ⟨λ q => q.ext2 (λ i hi => wP (by omega)) (λ g hg => yJ h (by omega)), λ q => q.ext2 (λ i hi => (wP (by omega)).symm) (λ g hg => (yJ h (by omega)).symm)⟩
theorem AXU {c : Cht} (h : ChOk c) : ∀ i, i < (Sz c).length -> I6 1000000000 (gD (Sz c) i) := λ i hi => by
 rw [YU] at hi
 rw [wP hi]
 have := (yY h i).1
 unfold I6 at *; omega
theorem AGW {w : Dk} (h : ChOk w.c) : (IL w).2 = true ↔ Hq w.c = true /\ ∃ t, TrC w.c w.sp t := by
 have hm := h.m
 have hk := BJR (w := w) (l := Sz w.c) (by rw [YU]; omega) (by rw [YU]; omega) (AXU h) (by rw [YU]; exact AML h) (by rw [YU]; exact ALF h)
 rw [YU] at hk
 unfold IL
 cases hs : Hq w.c with
 | false => exact ⟨λ h => (by cases h), λ h => (by cases h.1)⟩
 | true =>
  show (Fg w (Sz w.c)).all He = true ↔ _
  rw [hk]
  exact ⟨λ ⟨t, ht⟩ => ⟨rfl, t, (BHT h).1 ht⟩, λ ⟨_, t, ht⟩ => ⟨t, (BHT h).2 ht⟩⟩
end Go.Bal

namespace Go.Bal
open Go Go.Sym Go.Proofs
theorem TrC.note {c : Cht} {sp : Nat -> Bool} {t : Nat -> Int} (h : TrC c sp t) {i : Nat} (hi : i < c.ms.length) : (Xj c i).has (t i) := h.at_ i (by omega)
end Go.Bal

namespace Go.Bal
open Go Go.Sym Go.Proofs
theorem BIW (a b : Int) : MY a b = a /\ b <= a ∨ MY a b = b /\ a <= b := by unfold MY; split <;> omega
theorem BII (a b : Int) : XC a b = a /\ a <= b ∨ XC a b = b /\ b <= a := by unfold XC; split <;> omega
def HulIs (h : Hul) (S : Span -> Prop) : Prop := (h.m = true -> (∃ s, S s /\ s.lo = h.s.lo) /\ ∃ s, S s /\ s.hi = h.s.hi) /\ ∀ s, S s -> h.m = true /\ h.s.lo <= s.lo /\ s.hi <= h.s.hi
theorem HulIs.zero {S : Span -> Prop} (h : ∀ s, ¬ S s) : HulIs zHul S := ⟨λ h => (by cases h), λ s hs => absurd hs (h s)⟩
theorem HulIs.ext {h : Hul} {S T : Span -> Prop} (hs : HulIs h S) (e : ∀ s, S s ↔ T s) : HulIs h T :=
 ⟨λ hm => let ⟨⟨a, a1, a2⟩, b, b1, b2⟩ := hs.1 hm; ⟨⟨a, (e a).1 a1, a2⟩, b, (e b).1 b1, b2⟩, λ s q => hs.2 s ((e s).2 q)⟩
theorem HulIs.add {h : Hul} {S : Span -> Prop} (hs : HulIs h S) (x : Span) : HulIs (Sy h x) λ s => S s ∨ s = x := by
 cases hm : h.m with
 | false =>
  have no : ∀ s, ¬ S s := λ s q => by have := (hs.2 s q).1; rw [hm] at this; cases this
  have e : Sy h x = ⟨x, true⟩ := by unfold Sy; rw [hm]; rfl
  rw [e]
  exact ⟨λ _ => ⟨⟨x, .inr rfl, rfl⟩, x, .inr rfl, rfl⟩, λ s q => q.elim (λ q => absurd q (no s)) λ q => by subst q; exact ⟨rfl, Int.le_refl _, Int.le_refl _⟩⟩
 | true =>
  have e : Sy h x = ⟨⟨XC x.lo h.s.lo, MY x.hi h.s.hi⟩, true⟩ := by unfold Sy; rw [hm]; rfl
  obtain ⟨⟨a, a1, a2⟩, b, b1, b2⟩ := hs.1 hm
  have m1 := BPH x.lo h.s.lo
  have m2 := BMO x.hi h.s.hi
  rw [e]
  refine ⟨λ _ => ⟨?_, ?_⟩, λ s q => ⟨rfl, ?_, ?_⟩⟩
  ·show ∃ s, (S s ∨ s = x) /\ s.lo = XC x.lo h.s.lo
   rcases BII x.lo h.s.lo with ⟨q, _⟩ | ⟨q, _⟩ <;> rw [q]
   ·exact ⟨x, .inr rfl, rfl⟩
   ·exact ⟨a, .inl a1, a2⟩
  ·show ∃ s, (S s ∨ s = x) /\ s.hi = MY x.hi h.s.hi
   rcases BIW x.hi h.s.hi with ⟨q, _⟩ | ⟨q, _⟩ <;> rw [q]
   ·exact ⟨x, .inr rfl, rfl⟩
   ·exact ⟨b, .inl b1, b2⟩
  ·show XC x.lo h.s.lo <= s.lo
   rcases q with q | q
   ·have := (hs.2 s q).2; omega
   ·subst q; exact m1.1
  ·show s.hi <= MY x.hi h.s.hi
   rcases q with q | q
   ·have := (hs.2 s q).2; omega
   ·subst q; exact m2.1
theorem TrC.bd {c : Cht} (h : ChOk c) {sp : Nat -> Bool} {u : Nat -> Int} (hu : TrC c sp u) {i : Nat} (hi : i < c.ms.length) : -100000000 <= u i /\ u i <= 100000000 := by
 have n := hu.note hi
 have b := (yY h (i : Int)).1
 unfold I6 at b
 unfold Span.has at n
 omega
theorem TrC.inc {c : Cht} (h : ChOk c) {sp : Nat -> Bool} {u : Nat -> Int} (hu : TrC c sp u) {g : Nat} (hg : g + 1 < c.ms.length) : u g < u (g + 1) := by
 have a := (hu.gap g (by omega)).1
 have b := (h.gap sp hg).1
 have a : c.p.lo * RJ c g <= u (g + 1) - u g := a
 omega
theorem TrC.lt {c : Cht} (h : ChOk c) {sp : Nat -> Bool} {u : Nat -> Int} (hu : TrC c sp u) {i : Nat} : ∀ {j : Nat}, i < j -> j < c.ms.length -> u i < u j
 | j + 1, hij, hj => by
  have := hu.inc h hj
  rcases Nat.lt_or_ge i j with q | q
  ·have := hu.lt h q (by omega); omega
  ·obtain rfl : i = j := by omega
   exact this
theorem TrC.le {c : Cht} (h : ChOk c) {sp : Nat -> Bool} {u : Nat -> Int} (hu : TrC c sp u) {i j : Nat} (hij : i <= j) (hj : j < c.ms.length) : u i <= u j := by
 rcases Nat.lt_or_ge i j with q | q
 ·exact Int.le_of_lt (hu.lt h q hj)
 ·obtain rfl : i = j := by omega
  exact Int.le_refl _
theorem AOE {c : Cht} {i : Nat} (hi : i < c.ms.length) : gD (Et c) i = bT c i := KL _ _ _ hi
end Go.Bal
