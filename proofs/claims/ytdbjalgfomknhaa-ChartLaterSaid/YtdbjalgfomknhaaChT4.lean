/- Package chart: times of a chart, as truths (no program in sight). -/
import Derived.Test.YtdbjalgfomknhaaChT2
set_option linter.unusedVariables false
set_option linter.unusedSimpArgs false
namespace Go.Bal
open Go Go.Sym Go.Proofs
def KJ (c : Cht) (g : Nat) : Int := (gD c.ms (g + 1)).pl - (gD c.ms g).pl
def TG (c : Cht) (sp : Nat -> Bool) (g : Nat) : Span := ⟨c.p.lo * KJ c g, bif sp g then 200000000 else c.p.hi * KJ c g⟩
theorem ChOk.far {c : Cht} (h : ChOk c) {g : Nat} (hg : g + 1 < c.ms.length) : 1 <= KJ c g /\ KJ c g <= 10000 := by
 have h1 := h.up g hg
 have h2 := h.mks g (by omega)
 have h3 := h.mks (g + 1) hg
 unfold KJ; omega
theorem ChOk.gap {c : Cht} (h : ChOk c) (sp : Nat -> Bool) {g : Nat} (hg : g + 1 < c.ms.length) : (1 <= c.p.lo * KJ c g /\ c.p.lo * KJ c g <= 6000000) /\ (c.p.lo * KJ c g <= c.p.hi * KJ c g /\ c.p.hi * KJ c g <= 6000000) /\ (TG c sp g).lo <= (TG c sp g).hi := by
 obtain ⟨f1, f2⟩ := h.far hg
 obtain ⟨p1, p2, p3⟩ := h.p
 have a1 := mulb (a := c.p.lo) (b := KJ c g) (A := 600) (B := 10000) (by omega) (by omega) (by omega) f2
 have a2 := mulb (a := c.p.hi) (b := KJ c g) (A := 600) (B := 10000) (by omega) (by omega) (by omega) f2
 have a3 : c.p.lo * KJ c g <= c.p.hi * KJ c g := Int.mul_le_mul_of_nonneg_right p2 (by omega)
 have a4 : 1 * 1 <= c.p.lo * KJ c g := Int.mul_le_mul p1 f1 (by omega) (by omega)
 refine ⟨by omega, by omega, ?_⟩
 show c.p.lo * KJ c g <= bif sp g then 200000000 else c.p.hi * KJ c g
 cases sp g
 ·exact a3
 ·show _ <= (200000000 : Int); omega
theorem VO {w : Dk} (h : ChOk w.c) {g : Nat} (hg : g + 1 < w.c.ms.length) : DZ w g = TG w.c w.sp g := by
 obtain ⟨f1, f2⟩ := h.far hg
 obtain ⟨a1, a2, _⟩ := h.gap w.sp hg
 have e : farM w.c g = KJ w.c g := by unfold farM wr; unfold KJ at *; exact CP (by omega) (by omega)
 unfold DZ TG
 rw [e]
 unfold wr
 rw [CP (by omega) (by omega), CP (by omega) (by omega)]
theorem AOA {w : Dk} (h : ChOk w.c) : gpOk (DZ w) (w.c.ms.length - 1) := λ g hg => by
 obtain ⟨a1, a2, a3⟩ := h.gap w.sp (g := g) (by omega)
 rw [VO h (by omega)]
 refine ⟨⟨by show 0 <= w.c.p.lo * KJ w.c g; omega, by show w.c.p.lo * KJ w.c g <= _; omega⟩, by have : (TG w.c w.sp g).lo = w.c.p.lo * KJ w.c g := rfl; omega, ?_⟩
 show (bif w.sp g then 200000000 else w.c.p.hi * KJ w.c g) <= _
 cases w.sp g
 ·show w.c.p.hi * KJ w.c g <= _; omega
 ·show (200000000 : Int) <= _; omega
theorem APC {w : Dk} (h : ChOk w.c) : ∀ g, g < w.c.ms.length - 1 -> (DZ w g).lo <= (DZ w g).hi := λ g hg => by
 rw [VO h (by omega)]; exact (h.gap w.sp (by omega)).2.2
theorem C7 {c : Cht} (h : ChOk c) (j : Int) : YM 100000000 (IN c j) /\ (IN c j).lo <= (IN c j).hi := by
 unfold IN
 cases hj : hasN c.ns j with
 | false => show YM 100000000 farS /\ farS.lo <= farS.hi; exact ⟨⟨by decide, by decide⟩, by decide⟩
 | true =>
  obtain ⟨hm, _⟩ := SD hj
  have := (h.nt _ hm).t
  refine ⟨?_, this.2.1⟩
  show YM _ (ntOf c.ns j).t
  unfold YM; omega
theorem BSE {c : Cht} {i : Nat} (hi : i < c.ms.length) : gD (Fb c) i = IN c i := BK _ _ _ hi
theorem Tr.ext2 {l l' s s' : Nat -> Span} {n : Nat} {t : Nat -> Int} (h : Tr l s n t) (h1 : ∀ i, i <= n -> l i = l' i) (h2 : ∀ g, g < n -> s g = s' g) : Tr l' s' n t := ⟨λ i hi => by rw [<- h1 i hi]; exact h.at_ i hi, λ g hg => by rw [<- h2 g hg]; exact h.gap g hg⟩
def TrC (c : Cht) (sp : Nat -> Bool) (t : Nat -> Int) : Prop := Tr (λ i => IN c i) (TG c sp) (c.ms.length - 1) t
theorem BHW {w : Dk} (h : ChOk w.c) {t : Nat -> Int} : Tr (gD (Fb w.c)) (DZ w) (w.c.ms.length - 1) t ↔ TrC w.c w.sp t := by
 have := h.m
 exact ⟨λ q => q.ext2 (λ i hi => BSE (by omega)) (λ g hg => VO h (by omega)), λ q => q.ext2 (λ i hi => (BSE (by omega)).symm) (λ g hg => (VO h (by omega)).symm)⟩
theorem CCO {c : Cht} (h : ChOk c) : ∀ i, i < (Fb c).length -> YM 1000000000 (gD (Fb c) i) := λ i hi => by
 rw [EN] at hi
 rw [BSE hi]
 have := (C7 h i).1
 unfold YM at *; omega
theorem Cw {w : Dk} (h : ChOk w.c) : (AU w).2 = true ↔ stgOk w.c = true /\ ∃ t, TrC w.c w.sp t := by
 have hm := h.m
 have hk := BXJ (w := w) (l := Fb w.c) (by rw [EN]; omega) (by rw [EN]; omega) (CCO h) (by rw [EN]; exact AOA h) (by rw [EN]; exact APC h)
 rw [EN] at hk
 unfold AU
 cases hs : stgOk w.c with
 | false => exact ⟨λ h => (by cases h), λ h => (by cases h.1)⟩
 | true =>
  show (KF w (Fb w.c)).all IL = true ↔ _
  rw [hk]
  exact ⟨λ ⟨t, ht⟩ => ⟨rfl, t, (BHW h).1 ht⟩, λ ⟨_, t, ht⟩ => ⟨t, (BHW h).2 ht⟩⟩
theorem CMI {w : Dk} (h : ChOk w.c) (hk : (AU w).2 = true) {i : Nat} (hi : i < w.c.ms.length) {x : Int} : (gD (AU w).1 i).has x ↔ ∃ t, TrC w.c w.sp t /\ t i = x := by
 have hm := h.m
 obtain ⟨hs, t, ht⟩ := (Cw h).1 hk
 have e : (AU w).1 = KF w (Fb w.c) := by unfold AU; rw [hs]; rfl
 have b1 := AOA h
 have b2 := APC h
 rw [e, BPT (by rw [EN]; omega) (by rw [EN]; omega) (CCO h) (by rw [EN]; exact b1) (by rw [EN]; exact hi), EN]
 rw [CBL b2 ((BUI b2).2 ⟨t, (BHW h).2 ht⟩) (by omega)]
 exact ⟨λ ⟨t, a, b⟩ => ⟨t, (BHW h).1 a, b⟩, λ ⟨t, a, b⟩ => ⟨t, (BHW h).2 a, b⟩⟩
theorem CMH {w : Dk} (hk : (AU w).2 = true) {i : Nat} (hi : i < w.c.ms.length) : (gD (AU w).1 i).lo <= (gD (AU w).1 i).hi := by
 unfold AU at hk ⊢
 cases hs : stgOk w.c with
 | false => rw [hs] at hk; cases hk
 | true =>
  rw [hs] at hk
  have hk : (KF w (Fb w.c)).all IL = true := hk
  exact gG.1 hk i (by rw [BUG, EN]; exact hi)
theorem CPV {a b : Span} (h1 : a.lo <= a.hi) (h2 : b.lo <= b.hi) (h : ∀ x, a.has x ↔ b.has x) : a = b := by
 have e1 := (h a.lo).1 ⟨Int.le_refl _, h1⟩
 have e2 := (h a.hi).1 ⟨h1, Int.le_refl _⟩
 have e3 := (h b.lo).2 ⟨Int.le_refl _, h2⟩
 have e4 := (h b.hi).2 ⟨h2, Int.le_refl _⟩
 obtain ⟨a1, a2⟩ := a
 obtain ⟨b1, b2⟩ := b
 unfold Span.has at *
 simp only at e1 e2 e3 e4
 congr 1 <;> omega
end Go.Bal
