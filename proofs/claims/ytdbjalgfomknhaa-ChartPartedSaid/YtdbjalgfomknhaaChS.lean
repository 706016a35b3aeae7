/- Package chart: what the sort returns (no program in sight). -/
import Derived.Test.YtdbjalgfomknhaaChG1
set_option linter.unusedVariables false
set_option linter.unusedSimpArgs false
namespace Go.Bal
open Go Go.Sym Go.Proofs
theorem CIE {l : List Int} {i : Nat} (h : i < l.length) : l.drop i = gD l i :: l.drop (i + 1) := by
 rw [List.drop_eq_getElem_cons h]; simp [gD, List.getD_eq_getElem?_getD, h]
theorem CRC (l : List Int) (i j : Nat) : gD (l.drop i) j = gD l (i + j) := by
 simp [gD, List.getD_eq_getElem?_getD]
theorem CWL {α : Type} [Inhabited α] {l m : List α} (h : l.length = m.length) (h2 : ∀ i, i < l.length -> gD l i = gD m i) : l = m := by
 apply List.ext_getElem h
 intro i h3 h4
 have := h2 i h3
 simpa [gD, List.getD_eq_getElem?_getD, h3, h4] using this
theorem CYY {l : List Int} {j : Nat} (h : j + 1 < l.length) : l = l.take j ++ (gD l j :: gD l (j + 1) :: l.drop (j + 2)) /\ swL l j = l.take j ++ (gD l (j + 1) :: gD l j :: l.drop (j + 2)) := by
 have e : l.drop j = gD l j :: gD l (j + 1) :: l.drop (j + 2) := by
  rw [CIE (show j < l.length by omega), CIE (show j + 1 < l.length from h)]
 refine ⟨by rw [<- e, List.take_append_drop], ?_⟩
 apply CWL
 ·rw [BTQ]; simp; omega
 ·intro i hi
  rw [BTQ] at hi
  rw [CHH h, W5]
  have hl : (l.take j).length = j := by simp; omega
  by_cases h1 : i < j
  ·rw [if_pos (by rw [hl]; exact h1), decide_eq_false (show ¬i = j by omega), decide_eq_false (show ¬i = j + 1 by omega)]
   simp [gD, List.getD_eq_getElem?_getD, List.getElem?_take, h1]
  ·rw [if_neg (by rw [hl]; exact h1), hl]
   by_cases h2 : i = j
   ·subst h2; simp; rfl
   ·by_cases h3 : i = j + 1
    ·subst h3; rw [decide_eq_false h2, decide_eq_true rfl, show j + 1 - j = 1 by omega]; rfl
    ·rw [decide_eq_false h2, decide_eq_false h3]
     obtain ⟨m, rfl⟩ : ∃ m, i = j + 2 + m := ⟨i - j - 2, by omega⟩
     rw [show j + 2 + m - j = m + 2 by omega]
     show gD l (j + 2 + m) = gD (l.drop (j + 2)) m
     rw [CRC]
theorem CRO {l : List Int} {j : Nat} (h : j + 1 < l.length) : (swL l j).Perm l := by
 obtain ⟨h1, h2⟩ := CYY h
 rw [h2]
 conv => rhs; rw [h1]
 exact List.Perm.append_left _ (List.Perm.swap _ _ _)
theorem BJX {key : Int -> Int} : ∀ (j : Nat) (l : List Int), j < l.length -> (insJ key j l).Perm l
 | 0, l, _ => List.Perm.refl _
 | j + 1, l, h => by
  unfold insJ
  cases decide (tQ (key (gD l (j + 1))) (key (gD l j)) < 0)
  ·exact List.Perm.refl _
  ·exact (BJX j _ (by rw [BTQ]; omega)).trans (CRO h)
theorem BWO {key : Int -> Int} : ∀ (n i : Nat) (l : List Int), i + n <= l.length -> (stR key n i l).Perm l
 | 0, _, l, _ => List.Perm.refl _
 | n + 1, i, l, h => by
  unfold stR
  have hp := BJX (key := key) i l (by omega)
  exact (BWO n (i + 1) _ (by rw [hp.length_eq]; omega)).trans hp
theorem AVU (key : Int -> Int) (l : List Int) : (stM key l).Perm l := by
 unfold stM
 by_cases h : l.length = 0
 ·rw [h]; exact List.Perm.refl _
 ·exact BWO _ _ _ (by omega)
theorem CEB {p : Int -> Bool} : ∀ {l : List Int}, (∀ t, t < l.length -> p (gD l t) = false) -> l.find? p = none
 | [], _ => rfl
 | a :: l, h => by
  have h0 : p a = false := h 0 (Nat.succ_pos _)
  rw [List.find?_cons, h0]
  exact CEB λ t ht => h (t + 1) (Nat.succ_lt_succ ht)
theorem CEF {p : Int -> Bool} : ∀ {l : List Int} {j : Nat}, j < l.length -> (∀ t, t < j -> p (gD l t) = false) -> p (gD l j) = true -> l.find? p = some (gD l j)
 | [], j, h, _, _ => absurd h (Nat.not_lt_zero _)
 | a :: l, 0, _, _, h2 => by
  have h0 : p a = true := h2
  rw [List.find?_cons, h0]; rfl
 | a :: l, j + 1, h, h1, h2 => by
  have h0 : p a = false := h1 0 (Nat.succ_pos _)
  rw [List.find?_cons, h0]
  exact CEF (l := l) (j := j) (Nat.lt_of_succ_lt_succ h) (λ t ht => h1 (t + 1) (Nat.succ_lt_succ ht)) h2
theorem Yc {l : List Int} {k t : Nat} (h : t < k) : gD (l.take k) t = gD l t := by
 simp [gD, List.getD_eq_getElem?_getD, List.getElem?_take, h]
end Go.Bal
