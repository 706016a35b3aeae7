/- Package chart: charts that are made of numbers are right, and have the truth that is made with them (no program in sight). -/
import Derived.Test.YtdbjalgfomknhaaGreatChM
import Derived.Test.YtdbjalgfomknhaaGreatChZa
set_option linter.unusedVariables false
set_option linter.unusedSimpArgs false
namespace Go.Bal
open Go Go.Sym Go.Proofs
theorem ACZ {m : Int} (hm : 1 <= m /\ m <= 1000) : ∀ (z : List Int) (a : Int), -1 <= a -> a <= 1000 -> (Ex m a z = true ↔ (∀ g ∈ z, a < g /\ g + 1 < m) /\ z.Pairwise (· < ·))
 | [], a, _, _ => ⟨λ _ => ⟨λ g h => (by cases h), .nil⟩, λ _ => rfl⟩
 | g :: r, a, h1, h2 => by
  show (bif TP g (wr (a + 1)) (wr (m - 2)) then Ex m g r else false) = true ↔ _
  have e1 : wr (a + 1) = a + 1 := Dh (by omega) (by omega)
  have e2 : wr (m - 2) = m - 2 := Dh (by omega) (by omega)
  rw [e1, e2]
  cases hi : TP g (a + 1) (m - 2) with
  | false =>
   refine ⟨λ h => (by cases h), λ h => ?_⟩
   have := h.1 g (List.mem_cons_self ..)
   rw [MV.2 (by omega)] at hi; cases hi
  | true =>
   have hb := MV.1 hi
   have ih := ACZ hm r g (by omega) (by omega)
   show Ex m g r = true ↔ _
   rw [ih, List.pairwise_cons]
   constructor
   ·rintro ⟨q1, q2⟩
    refine ⟨λ x hx => ?_, λ x hx => (q1 x hx).1, q2⟩
    rcases List.mem_cons.1 hx with rfl | hx
    ·omega
    ·have := q1 x hx; omega
   ·rintro ⟨q1, q2, q3⟩
    exact ⟨λ x hx => ⟨q2 x hx, (q1 x (List.mem_cons_of_mem _ hx)).2⟩, q3⟩
theorem APP {m : Int} : ∀ (z : List Int) (a : Int) (f : Nat -> Bool) (j : Nat), -1 <= a -> a <= 1000 -> 1 <= m /\ m <= 1000 -> Ex m a z = true -> (lH m a z f j = true ↔ f j = true ∨ (j : Int) ∈ z)
 | [], a, f, j, _, _, _, _ => ⟨λ h => .inl h, λ h => h.elim id λ h => (by cases h)⟩
 | g :: r, a, f, j, h1, h2, hm, h => by
  have hh := (ACZ hm (g :: r) a h1 h2).1 h
  have hg := hh.1 g (List.mem_cons_self ..)
  have h : (bif TP g (wr (a + 1)) (wr (m - 2)) then Ex m g r else false) = true := h
  show (bif TP g (wr (a + 1)) (wr (m - 2)) then lH m g r (λ i => bif decide (i = g.toNat) then true else f i) j else f j) = true ↔ _
  cases hi : TP g (wr (a + 1)) (wr (m - 2)) with
  | false => rw [hi] at h; cases h
  | true =>
   rw [hi] at h
   show lH m g r (λ i => bif decide (i = g.toNat) then true else f i) j = true ↔ _
   rw [APP r g _ j (by omega) (by omega) hm h, List.mem_cons]
   by_cases e : j = g.toNat
   ·rw [decide_eq_true e]
    exact ⟨λ _ => .inr (.inl (by omega)), λ _ => .inl rfl⟩
   ·rw [decide_eq_false e]
    have : ¬ (j : Int) = g := by omega
    constructor
    ·rintro (q | q)
     ·exact .inl q
     ·exact .inr (.inr q)
    ·rintro (q | q | q)
     ·exact .inl q
     ·exact absurd q this
     ·exact .inr q
theorem BDB {a : CZ} (h : 1 <= a.c.ms.length /\ a.c.ms.length <= 40) (hz : okZ a = true) (j : Nat) : (GX a).sp j = true ↔ (j : Int) ∈ a.z := by
 show lH a.c.ms.length (-1) a.z (λ _ => false) j = true ↔ _
 rw [APP a.z (-1) _ j (by omega) (by omega) (by omega) hz]
 exact ⟨λ q => q.elim (λ q => by cases q) id, .inr⟩
end Go.Bal
