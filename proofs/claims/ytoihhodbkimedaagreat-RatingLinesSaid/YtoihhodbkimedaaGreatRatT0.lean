/- Package rating: what the sort returns (no program in sight). -/
import Derived.Test.YtoihhodbkimedaaGreatRatS
set_option linter.unusedVariables false
set_option linter.unusedSimpArgs false
namespace Go.Bal
open Go Go.Sym Go.Proofs
theorem BFJ {α : Type} [Inhabited α] {l m : List α} (h : l.length = m.length) (h2 : ∀ i, i < l.length -> gD l i = gD m i) : l = m := by
 apply List.ext_getElem h
 intro i h3 h4
 have := h2 i h3
 simpa [gD, List.getD_eq_getElem?_getD, h3, h4] using this
theorem BXZ {l : List Int} {j : Nat} (h : j + 1 < l.length) : l = l.take j ++ (gD l j :: gD l (j + 1) :: l.drop (j + 2)) /\ swL l j = l.take j ++ (gD l (j + 1) :: gD l j :: l.drop (j + 2)) := by
 have e : l.drop j = gD l j :: gD l (j + 1) :: l.drop (j + 2) := by
  rw [S6 (show j < l.length by omega), S6 (show j + 1 < l.length from h)]
 refine ⟨by rw [<- e, List.take_append_drop], ?_⟩
 apply BFJ
 ·rw [ARE]; simp; omega
 ·intro i hi
  rw [ARE] at hi
  rw [BHR h, vG]
  have hl : (l.take j).length = j := by simp; omega
  by_cases h1 : i < j
  ·rw [if_pos (by rw [hl]; exact h1), decide_eq_false (show ¬i = j by omega), decide_eq_false (show ¬i = j + 1 by omega)]
   simp [gD, List.getD_eq_getElem?_getD, List.getElem?_take, h1]
  ·rw [if_neg (by rw [hl]; exact h1), hl]
   by_cases h2 : i = j
   ·subst h2; simp; rfl
   ·by_cases h3 : i = j + 1
    ·subst h3; rw [decide_eq_false h2, decide_eq_true rfl, show j + 1 - j = 1 by omega]; rfl
    ·rw [decide_eq_false h2, decide_eq_false h3]
     obtain ⟨m, rfl⟩ : ∃ m, i = j + 2 + m := ⟨i - j - 2, by omega⟩
     rw [show j + 2 + m - j = m + 2 by omega]
     show gD l (j + 2 + m) = gD (l.drop (j + 2)) m
     rw [Bv]
theorem BNP {l : List Int} {j : Nat} (h : j + 1 < l.length) : (swL l j).Perm l := by
 obtain ⟨h1, h2⟩ := BXZ h
 rw [h2]
 conv => rhs; rw [h1]
 exact List.Perm.append_left _ (List.Perm.swap _ _ _)
theorem AKS {key : Int -> Int} : ∀ (j : Nat) (l : List Int), j < l.length -> (insJ key j l).Perm l
 | 0, l, _ => List.Perm.refl _
 | j + 1, l, h => by
  unfold insJ
  cases decide (JH (key (gD l (j + 1))) (key (gD l j)) < 0)
  ·exact List.Perm.refl _
  ·exact (AKS j _ (by rw [ARE]; omega)).trans (BNP h)
theorem AUW {key : Int -> Int} : ∀ (n i : Nat) (l : List Int), i + n <= l.length -> (stR key n i l).Perm l
 | 0, _, l, _ => List.Perm.refl _
 | n + 1, i, l, h => by
  unfold stR
  have hp := AKS (key := key) i l (by omega)
  exact (AUW n (i + 1) _ (by rw [hp.length_eq]; omega)).trans hp
theorem BGG (key : Int -> Int) (l : List Int) : (stM key l).Perm l := by
 unfold stM
 by_cases h : l.length = 0
 ·rw [h]; exact List.Perm.refl _
 ·exact AUW _ _ _ (by omega)
end Go.Bal
