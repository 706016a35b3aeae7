/- Package chart: times of a chart, as truths (no program in sight). -/
import Derived.Test.YtdbjalgfomknhaaChT2
set_option linter.unusedVariables false
set_option linter.unusedSimpArgs false
namespace Go.Bal
open Go Go.Sym Go.Proofs
def HY (c : Cht) (g : Nat) : Int := (gD c.ms (g + 1)).pl - (gD c.ms g).pl
def gapP (c : Cht) (sp : Nat -> Bool) (g : Nat) : Span := ⟨c.p.lo * HY c g, bif sp g then 200000000 else c.p.hi * HY c g⟩
theorem ChOk.far {c : Cht} (h : ChOk c) {g : Nat} (hg : g + 1 < c.ms.length) : 1 <= HY c g /\ HY c g <= 10000 := by
 have h1 := h.up g hg
 have h2 := h.mks g (by omega)
 have h3 := h.mks (g + 1) hg
 unfold HY; omega
theorem ChOk.gap {c : Cht} (h : ChOk c) (sp : Nat -> Bool) {g : Nat} (hg : g + 1 < c.ms.length) : (1 <= c.p.lo * HY c g /\ c.p.lo * HY c g <= 6000000) /\ (c.p.lo * HY c g <= c.p.hi * HY c g /\ c.p.hi * HY c g <= 6000000) /\ (gapP c sp g).lo <= (gapP c sp g).hi := by
 obtain ⟨f1, f2⟩ := h.far hg
 obtain ⟨p1, p2, p3⟩ := h.p
 have a1 := mulb (a := c.p.lo) (b := HY c g) (A := 600) (B := 10000) (by omega) (by omega) (by omega) f2
 have a2 := mulb (a := c.p.hi) (b := HY c g) (A := 600) (B := 10000) (by omega) (by omega) (by omega) f2
 have a3 : c.p.lo * HY c g <= c.p.hi * HY c g := Int.mul_le_mul_of_nonneg_right p2 (by omega)
 have a4 : 1 * 1 <= c.p.lo * HY c g := Int.mul_le_mul p1 f1 (by omega) (by omega)
 refine ⟨by omega, by omega, ?_⟩
 show c.p.lo * HY c g <= bif sp g then 200000000 else c.p.hi * HY c g
 cases sp g
 ·exact a3
 ·show _ <= (200000000 : Int); omega
theorem pU {w : Dk} (h : ChOk w.c) {g : Nat} (hg : g + 1 < w.c.ms.length) : GD w g = gapP w.c w.sp g := by
 obtain ⟨f1, f2⟩ := h.far hg
 obtain ⟨a1, a2, _⟩ := h.gap w.sp hg
 have e : farM w.c g = HY w.c g := by unfold farM wr; unfold HY at *; exact EM (by omega) (by omega)
 unfold GD gapP
 rw [e]
 unfold wr
 rw [EM (by omega) (by omega), EM (by omega) (by omega)]
theorem CIS {w : Dk} (h : ChOk w.c) : gpOk (GD w) (w.c.ms.length - 1) := λ g hg => by
 obtain ⟨a1, a2, a3⟩ := h.gap w.sp (g := g) (by omega)
 rw [pU h (by omega)]
 refine ⟨⟨by show 0 <= w.c.p.lo * HY w.c g; omega, by show w.c.p.lo * HY w.c g <= _; omega⟩, by have : (gapP w.c w.sp g).lo = w.c.p.lo * HY w.c g := rfl; omega, ?_⟩
 show (bif w.sp g then 200000000 else w.c.p.hi * HY w.c g) <= _
 cases w.sp g
 ·show w.c.p.hi * HY w.c g <= _; omega
 ·show (200000000 : Int) <= _; omega
theorem CMP {w : Dk} (h : ChOk w.c) : ∀ g, g < w.c.ms.length - 1 -> (GD w g).lo <= (GD w g).hi := λ g hg => by
 rw [pU h (by omega)]; exact (h.gap w.sp (by omega)).2.2
theorem AEJ {c : Cht} (h : ChOk c) (j : Int) : U0 100000000 (KE c j) /\ (KE c j).lo <= (KE c j).hi := by
 unfold KE
 cases hj : hasN c.ns j with
 | false => show U0 100000000 farS /\ farS.lo <= farS.hi; exact ⟨⟨by decide, by decide⟩, by decide⟩
 | true =>
  obtain ⟨hm, _⟩ := Vb hj
  have := (h.nt _ hm).t
  refine ⟨?_, this.2.1⟩
  show U0 _ (ntOf c.ns j).t
  unfold U0; omega
theorem CKF {c : Cht} {i : Nat} (hi : i < c.ms.length) : gD (Ie c) i = KE c i := CB _ _ _ hi
theorem Tr.ext2 {l l' s s' : Nat -> Span} {n : Nat} {t : Nat -> Int} (h : Tr l s n t) (h1 : ∀ i, i <= n -> l i = l' i) (h2 : ∀ g, g < n -> s g = s' g) : Tr l' s' n t := ⟨λ i hi => by rw [<- h1 i hi]; exact h.at_ i hi, λ g hg => by rw [<- h2 g hg]; exact h.gap g hg⟩
def TrC (c : Cht) (sp : Nat -> Bool) (t : Nat -> Int) : Prop := Tr (λ i => KE c i) (gapP c sp) (c.ms.length - 1) t
theorem BXP {w : Dk} (h : ChOk w.c) {t : Nat -> Int} : Tr (gD (Ie w.c)) (GD w) (w.c.ms.length - 1) t ↔ TrC w.c w.sp t := by
 have := h.m
 exact ⟨λ q => q.ext2 (λ i hi => CKF (by omega)) (λ g hg => pU h (by omega)), λ q => q.ext2 (λ i hi => (CKF (by omega)).symm) (λ g hg => (pU h (by omega)).symm)⟩
theorem CVU {c : Cht} (h : ChOk c) : ∀ i, i < (Ie c).length -> U0 1000000000 (gD (Ie c) i) := λ i hi => by
 rw [FR] at hi
 rw [CKF hi]
 have := (AEJ h i).1
 unfold U0 at *; omega
theorem WB {w : Dk} (h : ChOk w.c) : (AX w).2 = true ↔ HP w.c = true /\ ∃ t, TrC w.c w.sp t := by
 have hm := h.m
 have hk := DFG (w := w) (l := Ie w.c) (by rw [FR]; omega) (by rw [FR]; omega) (CVU h) (by rw [FR]; exact CIS h) (by rw [FR]; exact CMP h)
 rw [FR] at hk
 unfold AX
 cases hs : HP w.c with
 | false => exact ⟨λ h => (by cases h), λ h => (by cases h.1)⟩
 | true =>
  show (MN w (Ie w.c)).all KC = true ↔ _
  rw [hk]
  exact ⟨λ ⟨t, ht⟩ => ⟨rfl, t, (BXP h).1 ht⟩, λ ⟨_, t, ht⟩ => ⟨t, (BXP h).2 ht⟩⟩
theorem DAP {w : Dk} (h : ChOk w.c) (hk : (AX w).2 = true) {i : Nat} (hi : i < w.c.ms.length) {x : Int} : (gD (AX w).1 i).has x ↔ ∃ t, TrC w.c w.sp t /\ t i = x := by
 have hm := h.m
 obtain ⟨hs, t, ht⟩ := (WB h).1 hk
 have e : (AX w).1 = MN w (Ie w.c) := by unfold AX; rw [hs]; rfl
 have b1 := CIS h
 have b2 := CMP h
 rw [e, CMZ (by rw [FR]; omega) (by rw [FR]; omega) (CVU h) (by rw [FR]; exact b1) (by rw [FR]; exact hi), FR]
 rw [CVL b2 ((CNY b2).2 ⟨t, (BXP h).2 ht⟩) (by omega)]
 exact ⟨λ ⟨t, a, b⟩ => ⟨t, (BXP h).1 a, b⟩, λ ⟨t, a, b⟩ => ⟨t, (BXP h).2 a, b⟩⟩
theorem DEV {w : Dk} (hk : (AX w).2 = true) {i : Nat} (hi : i < w.c.ms.length) : (gD (AX w).1 i).lo <= (gD (AX w).1 i).hi := by
 unfold AX at hk ⊢
 cases hs : HP w.c with
 | false => rw [hs] at hk; cases hk
 | true =>
  rw [hs] at hk
  have hk : (MN w (Ie w.c)).all KC = true := hk
  exact BHJ.1 hk i (by rw [CNS, FR]; exact hi)
end Go.Bal
