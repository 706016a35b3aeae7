/- Package chart: times of a chart, as truths (no program in sight). -/
import Derived.Test.YtdbjalgfomknhaaChT2
set_option linter.unusedVariables false
set_option linter.unusedSimpArgs false
namespace Go.Bal
open Go Go.Sym Go.Proofs
def JC (c : Cht) (g : Nat) : Int := (gD c.ms (g + 1)).pl - (gD c.ms g).pl
def NT (c : Cht) (sp : Nat -> Bool) (g : Nat) : Span := ⟨c.p.lo * JC c g, bif sp g then 200000000 else c.p.hi * JC c g⟩
theorem ChOk.far {c : Cht} (h : ChOk c) {g : Nat} (hg : g + 1 < c.ms.length) : 1 <= JC c g /\ JC c g <= 10000 := by
 have h1 := h.up g hg
 have h2 := h.mks g (by omega)
 have h3 := h.mks (g + 1) hg
 unfold JC; omega
theorem ChOk.gap {c : Cht} (h : ChOk c) (sp : Nat -> Bool) {g : Nat} (hg : g + 1 < c.ms.length) : (1 <= c.p.lo * JC c g /\ c.p.lo * JC c g <= 6000000) /\ (c.p.lo * JC c g <= c.p.hi * JC c g /\ c.p.hi * JC c g <= 6000000) /\ (NT c sp g).lo <= (NT c sp g).hi := by
 obtain ⟨f1, f2⟩ := h.far hg
 obtain ⟨p1, p2, p3⟩ := h.p
 have a1 := mulb (a := c.p.lo) (b := JC c g) (A := 600) (B := 10000) (by omega) (by omega) (by omega) f2
 have a2 := mulb (a := c.p.hi) (b := JC c g) (A := 600) (B := 10000) (by omega) (by omega) (by omega) f2
 have a3 : c.p.lo * JC c g <= c.p.hi * JC c g := Int.mul_le_mul_of_nonneg_right p2 (by omega)
 have a4 : 1 * 1 <= c.p.lo * JC c g := Int.mul_le_mul p1 f1 (by omega) (by omega)
 refine ⟨by omega, by omega, ?_⟩
 show c.p.lo * JC c g <= bif sp g then 200000000 else c.p.hi * JC c g
 cases sp g
 ·exact a3
 ·show _ <= (200000000 : Int); omega
theorem aK {w : Dk} (h : ChOk w.c) {g : Nat} (hg : g + 1 < w.c.ms.length) : FU w g = NT w.c w.sp g := by
 obtain ⟨f1, f2⟩ := h.far hg
 obtain ⟨a1, a2, _⟩ := h.gap w.sp hg
 have e : farM w.c g = JC w.c g := by unfold farM wr; unfold JC at *; exact FC (by omega) (by omega)
 unfold FU NT
 rw [e]
 unfold wr
 rw [FC (by omega) (by omega), FC (by omega) (by omega)]
theorem BNZ {w : Dk} (h : ChOk w.c) : gpOk (FU w) (w.c.ms.length - 1) := λ g hg => by
 obtain ⟨a1, a2, a3⟩ := h.gap w.sp (g := g) (by omega)
 rw [aK h (by omega)]
 refine ⟨⟨by show 0 <= w.c.p.lo * JC w.c g; omega, by show w.c.p.lo * JC w.c g <= _; omega⟩, by have : (NT w.c w.sp g).lo = w.c.p.lo * JC w.c g := rfl; omega, ?_⟩
 show (bif w.sp g then 200000000 else w.c.p.hi * JC w.c g) <= _
 cases w.sp g
 ·show w.c.p.hi * JC w.c g <= _; omega
 ·show (200000000 : Int) <= _; omega
theorem BME {w : Dk} (h : ChOk w.c) : ∀ g, g < w.c.ms.length - 1 -> (FU w g).lo <= (FU w g).hi := λ g hg => by
 rw [aK h (by omega)]; exact (h.gap w.sp (by omega)).2.2
theorem BSN {c : Cht} (h : ChOk c) (j : Int) : O2 100000000 (FT c j) /\ (FT c j).lo <= (FT c j).hi := by
 unfold FT
 cases hj : hasN c.ns j with
 | false => show O2 100000000 farS /\ farS.lo <= farS.hi; exact ⟨⟨by decide, by decide⟩, by decide⟩
 | true =>
  obtain ⟨hm, _⟩ := Ax hj
  have := (h.nt _ hm).t
  refine ⟨?_, this.2.1⟩
  show O2 _ (ntOf c.ns j).t
  unfold O2; omega
theorem BTM {c : Cht} {i : Nat} (hi : i < c.ms.length) : gD (Hb c) i = FT c i := BH _ _ _ hi
theorem Tr.ext2 {l l' s s' : Nat -> Span} {n : Nat} {t : Nat -> Int} (h : Tr l s n t) (h1 : ∀ i, i <= n -> l i = l' i) (h2 : ∀ g, g < n -> s g = s' g) : Tr l' s' n t := ⟨λ i hi => by rw [<- h1 i hi]; exact h.at_ i hi, λ g hg => by rw [<- h2 g hg]; exact h.gap g hg⟩
def TrC (c : Cht) (sp : Nat -> Bool) (t : Nat -> Int) : Prop := Tr (λ i => FT c i) (NT c sp) (c.ms.length - 1) t
theorem BED {w : Dk} (h : ChOk w.c) {t : Nat -> Int} : Tr (gD (Hb w.c)) (FU w) (w.c.ms.length - 1) t ↔ TrC w.c w.sp t := by
 have := h.m
 exact ⟨λ q => q.ext2 (λ i hi => BTM (by omega)) (λ g hg => aK h (by omega)), λ q => q.ext2 (λ i hi => (BTM (by omega)).symm) (λ g hg => (aK h (by omega)).symm)⟩
theorem CDO {c : Cht} (h : ChOk c) : ∀ i, i < (Hb c).length -> O2 1000000000 (gD (Hb c) i) := λ i hi => by
 rw [FM] at hi
 rw [BTM hi]
 have := (BSN h i).1
 unfold O2 at *; omega
theorem A0 {w : Dk} (h : ChOk w.c) : (AU w).2 = true ↔ stgOk w.c = true /\ ∃ t, TrC w.c w.sp t := by
 have hm := h.m
 have hk := CIT (w := w) (l := Hb w.c) (by rw [FM]; omega) (by rw [FM]; omega) (CDO h) (by rw [FM]; exact BNZ h) (by rw [FM]; exact BME h)
 rw [FM] at hk
 unfold AU
 cases hs : stgOk w.c with
 | false => exact ⟨λ h => (by cases h), λ h => (by cases h.1)⟩
 | true =>
  show (KV w (Hb w.c)).all JB = true ↔ _
  rw [hk]
  exact ⟨λ ⟨t, ht⟩ => ⟨rfl, t, (BED h).1 ht⟩, λ ⟨_, t, ht⟩ => ⟨t, (BED h).2 ht⟩⟩
theorem CIO {w : Dk} (h : ChOk w.c) (hk : (AU w).2 = true) {i : Nat} (hi : i < w.c.ms.length) {x : Int} : (gD (AU w).1 i).has x ↔ ∃ t, TrC w.c w.sp t /\ t i = x := by
 have hm := h.m
 obtain ⟨hs, t, ht⟩ := (A0 h).1 hk
 have e : (AU w).1 = KV w (Hb w.c) := by unfold AU; rw [hs]; rfl
 have b1 := BNZ h
 have b2 := BME h
 rw [e, BRM (by rw [FM]; omega) (by rw [FM]; omega) (CDO h) (by rw [FM]; exact b1) (by rw [FM]; exact hi), FM]
 rw [CDK b2 ((BYR b2).2 ⟨t, (BED h).2 ht⟩) (by omega)]
 exact ⟨λ ⟨t, a, b⟩ => ⟨t, (BED h).1 a, b⟩, λ ⟨t, a, b⟩ => ⟨t, (BED h).2 a, b⟩⟩
theorem CNZ {w : Dk} (hk : (AU w).2 = true) {i : Nat} (hi : i < w.c.ms.length) : (gD (AU w).1 i).lo <= (gD (AU w).1 i).hi := by
 unfold AU at hk ⊢
 cases hs : stgOk w.c with
 | false => rw [hs] at hk; cases hk
 | true =>
  rw [hs] at hk
  have hk : (KV w (Hb w.c)).all JB = true := hk
  exact PT.1 hk i (by rw [BYK, FM]; exact hi)
theorem CFA {a b : Span} (h1 : a.lo <= a.hi) (h2 : b.lo <= b.hi) (h : ∀ x, a.has x ↔ b.has x) : a = b := by
 have e1 := (h a.lo).1 ⟨Int.le_refl _, h1⟩
 have e2 := (h a.hi).1 ⟨h1, Int.le_refl _⟩
 have e3 := (h b.lo).2 ⟨Int.le_refl _, h2⟩
 have e4 := (h b.hi).2 ⟨h2, Int.le_refl _⟩
 obtain ⟨a1, a2⟩ := a
 obtain ⟨b1, b2⟩ := b
 unfold Span.has at *
 simp only at e1 e2 e3 e4
 congr 1 <;> omega
end Go.Bal

namespace Go.Bal
open Go Go.Sym Go.Proofs
theorem QQ (l : List Span) (k a b : Int) : (Oj l k a b).length = l.length := rng_length _ _
theorem CVQ {l : List Span} {g : Nat} {a b : Int} {i : Nat} (hi : i < l.length) (hg : g + 1 < l.length) : gD (Oj l ((g : Int) + 1) a b) i = ⟨bif decide (i = g + 1) then DJ (gD l i).lo b else (gD l i).lo, bif decide (i = g) then JL (gD l i).hi a else (gD l i).hi⟩ := by
 unfold Oj
 rw [BH _ _ _ hi]
 unfold parM
 have e1 : ((g : Int) + 1).toNat = g + 1 := by omega
 have e2 : ((g : Int) + 1 - 1).toNat = g := by omega
 rw [e1, e2, decide_eq_true (show (g : Int) + 1 < l.length by omega), decide_eq_true (show (g : Int) + 1 > 0 by omega), Bool.and_true, Bool.true_and]
theorem fT {a : CZ} (h : ChOk a.c) (hr : AS a = 0) {i : Nat} (hi : i < a.c.ms.length) {x : Int} : (gD (CJ a) i).has x ↔ ∃ t, TrC a.c (AI a).sp t /\ t i = x :=
 CIO (w := AI a) h (Dz hr).2.2 hi
theorem BXX {a : CZ} (hr : AS a = 0) {i : Nat} (hi : i < a.c.ms.length) : (gD (CJ a) i).lo <= (gD (CJ a) i).hi := CNZ (w := AI a) (Dz hr).2.2 hi
theorem TrC.note {c : Cht} {sp : Nat -> Bool} {t : Nat -> Int} (h : TrC c sp t) {i : Nat} (hi : i < c.ms.length) : (FT c i).has (t i) := h.at_ i (by omega)
theorem DBC {a : CZ} (h : ChOk a.c) (hr : AS a = 0) {i : Nat} (hi : i < a.c.ms.length) : O2 100000000 (gD (CJ a) i) := by
 have hle := BXX hr hi
 obtain ⟨t1, a1, b1⟩ := (fT h hr hi).1 ⟨Int.le_refl _, hle⟩
 obtain ⟨t2, a2, b2⟩ := (fT h hr hi).1 ⟨hle, Int.le_refl _⟩
 have c1 := a1.note hi
 have c2 := a2.note hi
 have d := (BSN h i).1
 rw [b1] at c1; rw [b2] at c2
 unfold Span.has O2 at *; omega
theorem CCV {a : CZ} (h : ChOk a.c) (hr : AS a = 0) {g : Nat} (hg : g + 1 < a.c.ms.length) {t : Int} (ht : -100000000 <= t /\ t <= 100000000) : Of a t g = true ↔ ∃ u, TrC a.c (AI a).sp u /\ u g <= t - 1 /\ t + 1 <= u (g + 1) := by
 have hl := Dq hr
 have hm := h.m
 have w1 : wr (t - 1) = t - 1 := FC (by omega) (by omega)
 have w2 : wr (t + 1) = t + 1 := FC (by omega) (by omega)
 have b1 : gpOk (FU (AI a)) (a.c.ms.length - 1) := BNZ (w := AI a) h
 have b2 : ∀ g, g < a.c.ms.length - 1 -> (FU (AI a) g).lo <= (FU (AI a) g).hi := BME (w := AI a) h
 have pa := λ i (hi : i < a.c.ms.length) => CVQ (l := CJ a) (g := g) (a := t - 1) (b := t + 1) (i := i) (by omega) (by omega)
 unfold Of
 rw [w1, w2, CIT (by rw [QQ]; omega) (by rw [QQ]; omega) (λ i hi => ?_) (by rw [QQ, hl]; exact b1) (by rw [QQ, hl]; exact b2), QQ, hl]
 ·constructor
  ·rintro ⟨u, hu⟩
   have hin : ∀ i, i < a.c.ms.length -> (gD (CJ a) i).has (u i) := λ i hi => by
    have := hu.at_ i (by omega)
    rw [pa i hi] at this
    obtain ⟨q1, q2⟩ := this
    have m1 := ANF (gD (CJ a) i).lo (t + 1)
    have m2 := BTJ (gD (CJ a) i).hi (t - 1)
    refine ⟨Int.le_trans ?_ q1, Int.le_trans q2 ?_⟩
    ·show _ <= bif decide (i = g + 1) then DJ (gD (CJ a) i).lo (t + 1) else (gD (CJ a) i).lo
     cases decide (i = g + 1)
     ·exact Int.le_refl _
     ·exact m1.1
    ·show (bif decide (i = g) then JL (gD (CJ a) i).hi (t - 1) else (gD (CJ a) i).hi) <= _
     cases decide (i = g)
     ·exact Int.le_refl _
     ·exact m2.1
   refine ⟨u, ⟨λ i hi => ?_, λ k hk => ?_⟩, ?_, ?_⟩
   ·obtain ⟨v, v1, v2⟩ := (fT h hr (by omega)).1 (hin i (by omega))
    have := v1.note (i := i) (by omega)
    rw [v2] at this; exact this
   ·have := hu.gap k hk
    rw [aK (w := AI a) h (by show k + 1 < a.c.ms.length; omega)] at this; exact this
   ·have := (hu.at_ g (by omega)).2
    rw [pa g (by omega)] at this
    have this : u g <= bif decide (g = g) then JL (gD (CJ a) g).hi (t - 1) else (gD (CJ a) g).hi := this
    rw [decide_eq_true rfl] at this
    have m2 := BTJ (gD (CJ a) g).hi (t - 1)
    exact Int.le_trans this m2.2
   ·have := (hu.at_ (g + 1) (by omega)).1
    rw [pa (g + 1) hg] at this
    have this : (bif decide (g + 1 = g + 1) then DJ (gD (CJ a) (g + 1)).lo (t + 1) else (gD (CJ a) (g + 1)).lo) <= u (g + 1) := this
    rw [decide_eq_true rfl] at this
    have m2 := ANF (gD (CJ a) (g + 1)).lo (t + 1)
    exact Int.le_trans m2.2 this
  ·rintro ⟨u, hu, u1, u2⟩
   refine ⟨u, λ i hi => ?_, λ k hk => ?_⟩
   ·have hin := (fT h hr (show i < a.c.ms.length by omega)).2 ⟨u, hu, rfl⟩
    rw [pa i (by omega)]
    refine ⟨?_, ?_⟩
    ·show (bif decide (i = g + 1) then DJ (gD (CJ a) i).lo (t + 1) else (gD (CJ a) i).lo) <= u i
     by_cases e : i = g + 1
     ·subst e; rw [decide_eq_true rfl]; exact AOM.2 ⟨hin.1, u2⟩
     ·rw [decide_eq_false e]; exact hin.1
    ·show u i <= bif decide (i = g) then JL (gD (CJ a) i).hi (t - 1) else (gD (CJ a) i).hi
     by_cases e : i = g
     ·subst e; rw [decide_eq_true rfl]; exact BPL.2 ⟨hin.2, u1⟩
     ·rw [decide_eq_false e]; exact hin.2
   ·have := hu.gap k hk
    rw [aK (w := AI a) h (by show k + 1 < a.c.ms.length; omega)]; exact this
 ·rw [QQ, hl] at hi
  have hb := DBC h hr hi
  rw [pa i hi]
  refine ⟨?_, ?_⟩
  ·show _ <= (bif decide (i = g + 1) then DJ (gD (CJ a) i).lo (t + 1) else (gD (CJ a) i).lo) /\ (bif decide (i = g + 1) then DJ (gD (CJ a) i).lo (t + 1) else (gD (CJ a) i).lo) <= _
   unfold O2 DJ at *
   cases decide (i = g + 1)
   ·simp only [cond_false]; omega
   ·simp only [cond_true]; split <;> omega
  ·show _ <= (bif decide (i = g) then JL (gD (CJ a) i).hi (t - 1) else (gD (CJ a) i).hi) /\ (bif decide (i = g) then JL (gD (CJ a) i).hi (t - 1) else (gD (CJ a) i).hi) <= _
   unfold O2 JL at *
   cases decide (i = g)
   ·simp only [cond_false]; omega
   ·simp only [cond_true]; split <;> omega
end Go.Bal
