/- Package chart: times of a chart, as truths (no program in sight). -/
import Derived.Test.YtdbjalgfomknhaaChT3
set_option linter.unusedVariables false
set_option linter.unusedSimpArgs false
namespace Go.Bal
open Go Go.Sym Go.Proofs
def farP (c : Cht) (g : Nat) : Int := (gD c.ms (g + 1)).pl - (gD c.ms g).pl
def gapP (c : Cht) (sp : Nat -> Bool) (g : Nat) : Span := ⟨c.p.lo * farP c g, bif sp g then 200000000 else c.p.hi * farP c g⟩
theorem ChOk.far {c : Cht} (h : ChOk c) {g : Nat} (hg : g + 1 < c.ms.length) : 1 <= farP c g /\ farP c g <= 10000 := by
 have h1 := h.up g hg
 have h2 := h.mks g (by omega)
 have h3 := h.mks (g + 1) hg
 unfold farP; omega
theorem ChOk.gap {c : Cht} (h : ChOk c) (sp : Nat -> Bool) {g : Nat} (hg : g + 1 < c.ms.length) : (1 <= c.p.lo * farP c g /\ c.p.lo * farP c g <= 6000000) /\ (c.p.lo * farP c g <= c.p.hi * farP c g /\ c.p.hi * farP c g <= 6000000) /\ (gapP c sp g).lo <= (gapP c sp g).hi := by
 obtain ⟨f1, f2⟩ := h.far hg
 obtain ⟨p1, p2, p3⟩ := h.p
 have a1 := mulb (a := c.p.lo) (b := farP c g) (A := 600) (B := 10000) (by omega) (by omega) (by omega) f2
 have a2 := mulb (a := c.p.hi) (b := farP c g) (A := 600) (B := 10000) (by omega) (by omega) (by omega) f2
 have a3 : c.p.lo * farP c g <= c.p.hi * farP c g := Int.mul_le_mul_of_nonneg_right p2 (by omega)
 have a4 : 1 * 1 <= c.p.lo * farP c g := Int.mul_le_mul p1 f1 (by omega) (by omega)
 refine ⟨by omega, by omega, ?_⟩
 show c.p.lo * farP c g <= bif sp g then 200000000 else c.p.hi * farP c g
 cases sp g
 ·exact a3
 ·show _ <= (200000000 : Int); omega
theorem gapM_eq {w : Dk} (h : ChOk w.c) {g : Nat} (hg : g + 1 < w.c.ms.length) : gapM w g = gapP w.c w.sp g := by
 obtain ⟨f1, f2⟩ := h.far hg
 obtain ⟨a1, a2, _⟩ := h.gap w.sp hg
 have e : farM w.c g = farP w.c g := by unfold farM wr; unfold farP at *; exact w64 (by omega) (by omega)
 unfold gapM gapP
 rw [e]
 unfold wr
 rw [w64 (by omega) (by omega), w64 (by omega) (by omega)]
theorem gpOk_of {w : Dk} (h : ChOk w.c) : gpOk (gapM w) (w.c.ms.length - 1) := λ g hg => by
 obtain ⟨a1, a2, a3⟩ := h.gap w.sp (g := g) (by omega)
 rw [gapM_eq h (by omega)]
 refine ⟨⟨by show 0 <= w.c.p.lo * farP w.c g; omega, by show w.c.p.lo * farP w.c g <= _; omega⟩, by have : (gapP w.c w.sp g).lo = w.c.p.lo * farP w.c g := rfl; omega, ?_⟩
 show (bif w.sp g then 200000000 else w.c.p.hi * farP w.c g) <= _
 cases w.sp g
 ·show w.c.p.hi * farP w.c g <= _; omega
 ·show (200000000 : Int) <= _; omega
theorem gple_of {w : Dk} (h : ChOk w.c) : ∀ g, g < w.c.ms.length - 1 -> (gapM w g).lo <= (gapM w g).hi := λ g hg => by
 rw [gapM_eq h (by omega)]; exact (h.gap w.sp (by omega)).2.2
theorem notM_bd {c : Cht} (h : ChOk c) (j : Int) : bdS 100000000 (notM c j) /\ (notM c j).lo <= (notM c j).hi := by
 unfold notM
 cases hj : hasN c.ns j with
 | false => show bdS 100000000 farS /\ farS.lo <= farS.hi; exact ⟨⟨by decide, by decide⟩, by decide⟩
 | true =>
  obtain ⟨hm, _⟩ := ntOf_mem hj
  have := (h.nt _ hm).t
  refine ⟨?_, this.2.1⟩
  show bdS _ (ntOf c.ns j).t
  unfold bdS; omega
theorem notL_at {c : Cht} {i : Nat} (hi : i < c.ms.length) : gD (notL c) i = notM c i := rng_get _ _ _ hi
theorem Tr.ext2 {l l' s s' : Nat -> Span} {n : Nat} {t : Nat -> Int} (h : Tr l s n t) (h1 : ∀ i, i <= n -> l i = l' i) (h2 : ∀ g, g < n -> s g = s' g) : Tr l' s' n t := ⟨λ i hi => by rw [<- h1 i hi]; exact h.at_ i hi, λ g hg => by rw [<- h2 g hg]; exact h.gap g hg⟩
def TrC (c : Cht) (sp : Nat -> Bool) (t : Nat -> Int) : Prop := Tr (λ i => notM c i) (gapP c sp) (c.ms.length - 1) t
theorem tr_iff {w : Dk} (h : ChOk w.c) {t : Nat -> Int} : Tr (gD (notL w.c)) (gapM w) (w.c.ms.length - 1) t ↔ TrC w.c w.sp t := by
 have := h.m
 exact ⟨λ q => q.ext2 (λ i hi => notL_at (by omega)) (λ g hg => gapM_eq h (by omega)), λ q => q.ext2 (λ i hi => (notL_at (by omega)).symm) (λ g hg => (gapM_eq h (by omega)).symm)⟩
theorem notL_bd {c : Cht} (h : ChOk c) : ∀ i, i < (notL c).length -> bdS 1000000000 (gD (notL c) i) := λ i hi => by
 rw [notL_len] at hi
 rw [notL_at hi]
 have := (notM_bd h i).1
 unfold bdS at *; omega
theorem times_ok {w : Dk} (h : ChOk w.c) : (timesV w).2 = true ↔ stgOk w.c = true /\ ∃ t, TrC w.c w.sp t := by
 have hm := h.m
 have hk := nar_ok (w := w) (l := notL w.c) (by rw [notL_len]; omega) (by rw [notL_len]; omega) (notL_bd h) (by rw [notL_len]; exact gpOk_of h) (by rw [notL_len]; exact gple_of h)
 rw [notL_len] at hk
 unfold timesV
 cases hs : stgOk w.c with
 | false => exact ⟨λ h => (by cases h), λ h => (by cases h.1)⟩
 | true =>
  show (narL w (notL w.c)).all leM = true ↔ _
  rw [hk]
  exact ⟨λ ⟨t, ht⟩ => ⟨rfl, t, (tr_iff h).1 ht⟩, λ ⟨_, t, ht⟩ => ⟨t, (tr_iff h).2 ht⟩⟩
theorem times_at {w : Dk} (h : ChOk w.c) (hk : (timesV w).2 = true) {i : Nat} (hi : i < w.c.ms.length) {x : Int} : (gD (timesV w).1 i).has x ↔ ∃ t, TrC w.c w.sp t /\ t i = x := by
 have hm := h.m
 obtain ⟨hs, t, ht⟩ := (times_ok h).1 hk
 have e : (timesV w).1 = narL w (notL w.c) := by unfold timesV; rw [hs]; rfl
 have b1 := gpOk_of h
 have b2 := gple_of h
 rw [e, narL_eq (by rw [notL_len]; omega) (by rw [notL_len]; omega) (notL_bd h) (by rw [notL_len]; exact b1) (by rw [notL_len]; exact hi), notL_len]
 rw [nar_iff b2 ((nar_none b2).2 ⟨t, (tr_iff h).2 ht⟩) (by omega)]
 exact ⟨λ ⟨t, a, b⟩ => ⟨t, (tr_iff h).1 a, b⟩, λ ⟨t, a, b⟩ => ⟨t, (tr_iff h).2 a, b⟩⟩
theorem times_le {w : Dk} (hk : (timesV w).2 = true) {i : Nat} (hi : i < w.c.ms.length) : (gD (timesV w).1 i).lo <= (gD (timesV w).1 i).hi := by
 unfold timesV at hk ⊢
 cases hs : stgOk w.c with
 | false => rw [hs] at hk; cases hk
 | true =>
  rw [hs] at hk
  have hk : (narL w (notL w.c)).all leM = true := hk
  exact all_leM.1 hk i (by rw [narL_len, notL_len]; exact hi)
end Go.Bal
