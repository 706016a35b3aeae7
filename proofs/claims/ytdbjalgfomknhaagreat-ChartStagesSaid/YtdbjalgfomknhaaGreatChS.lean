/- Package chart: what the sort returns (no program in sight). -/
import Derived.Test.YtdbjalgfomknhaaGreatChG1
import Derived.Test.YtdbjalgfomknhaaGreatChJ
set_option linter.unusedVariables false
set_option linter.unusedSimpArgs false
namespace Go.Bal
open Go Go.Sym Go.Proofs
theorem BAM {l : List Int} {i : Nat} (h : i < l.length) : l.drop i = gD l i :: l.drop (i + 1) := by
 rw [List.drop_eq_getElem_cons h]; simp [gD, List.getD_eq_getElem?_getD, h]
theorem AIM (l : List Int) (i j : Nat) : gD (l.drop i) j = gD l (i + j) := by
 simp [gD, List.getD_eq_getElem?_getD]
theorem BNA {α : Type} [Inhabited α] {l m : List α} (h : l.length = m.length) (h2 : ∀ i, i < l.length -> gD l i = gD m i) : l = m := by
 apply List.ext_getElem h
 intro i h3 h4
 have := h2 i h3
 simpa [gD, List.getD_eq_getElem?_getD, h3, h4] using this
theorem BOW {l : List Int} {j : Nat} (h : j + 1 < l.length) : l = l.take j ++ (gD l j :: gD l (j + 1) :: l.drop (j + 2)) /\ swL l j = l.take j ++ (gD l (j + 1) :: gD l j :: l.drop (j + 2)) := by
 have e : l.drop j = gD l j :: gD l (j + 1) :: l.drop (j + 2) := by
  rw [BAM (show j < l.length by omega), BAM (show j + 1 < l.length from h)]
 refine ⟨by rw [<- e, List.take_append_drop], ?_⟩
 apply BNA
 ·rw [kI]; simp; omega
 ·intro i hi
  rw [kI] at hi
  rw [AAZ h, Ma]
  have hl : (l.take j).length = j := by simp; omega
  by_cases h1 : i < j
  ·rw [if_pos (by rw [hl]; exact h1), decide_eq_false (show ¬i = j by omega), decide_eq_false (show ¬i = j + 1 by omega)]
   simp [gD, List.getD_eq_getElem?_getD, List.getElem?_take, h1]
  ·rw [if_neg (by rw [hl]; exact h1), hl]
   by_cases h2 : i = j
   ·subst h2; simp; rfl
   ·by_cases h3 : i = j + 1
    ·subst h3; rw [decide_eq_false h2, decide_eq_true rfl, show j + 1 - j = 1 by omega]; rfl
    ·rw [decide_eq_false h2, decide_eq_false h3]
     obtain ⟨m, rfl⟩ : ∃ m, i = j + 2 + m := ⟨i - j - 2, by omega⟩
     rw [show j + 2 + m - j = m + 2 by omega]
     show gD l (j + 2 + m) = gD (l.drop (j + 2)) m
     rw [AIM]
theorem BEB {l : List Int} {j : Nat} (h : j + 1 < l.length) : (swL l j).Perm l := by
 obtain ⟨h1, h2⟩ := BOW h
 rw [h2]
 conv => rhs; rw [h1]
 exact List.Perm.append_left _ (List.Perm.swap _ _ _)
theorem wR {key : Int -> Int} : ∀ (j : Nat) (l : List Int), j < l.length -> (uT key j l).Perm l
 | 0, l, _ => List.Perm.refl _
 | j + 1, l, h => by
  unfold uT
  cases decide (iE (key (gD l (j + 1))) (key (gD l j)) < 0)
  ·exact List.Perm.refl _
  ·exact (wR j _ (by rw [kI]; omega)).trans (BEB h)
theorem AKU {key : Int -> Int} : ∀ (n i : Nat) (l : List Int), i + n <= l.length -> (stR key n i l).Perm l
 | 0, _, l, _ => List.Perm.refl _
 | n + 1, i, l, h => by
  unfold stR
  have hp := wR (key := key) i l (by omega)
  exact (AKU n (i + 1) _ (by rw [hp.length_eq]; omega)).trans hp
theorem Uo (key : Int -> Int) (l : List Int) : (jI key l).Perm l := by
 unfold jI
 by_cases h : l.length = 0
 ·rw [h]; exact List.Perm.refl _
 ·exact AKU _ _ _ (by omega)
theorem E5 {a b : Int} : iE a b < 0 ↔ a < b := by
 unfold iE
 by_cases h : a < b
 ·simp [h]
 ·by_cases h2 : b < a
  ·simp [h, h2]
  ·simp [h, h2]
def BRI (key : Int -> Int) (i j : Nat) (l : List Int) : Prop := (∀ p q, p < q -> q <= i -> p ≠ j -> q ≠ j -> key (gD l p) <= key (gD l q)) /\ ∀ q, j < q -> q <= i -> key (gD l j) <= key (gD l q)
def upS (key : Int -> Int) (i : Nat) (l : List Int) : Prop := ∀ p q, p < q -> q <= i -> key (gD l p) <= key (gD l q)
theorem I8 {key : Int -> Int} {i : Nat} : ∀ (j : Nat) (l : List Int), j <= i -> i < l.length -> BRI key i j l -> upS key i (uT key j l)
 | 0, l, _, hl, h => λ p q h1 h2 => by
  show key (gD l p) <= key (gD l q)
  by_cases hp : p = 0
  ·subst hp; exact h.2 q h1 h2
  ·exact h.1 p q h1 h2 hp (by omega)
 | j + 1, l, hj, hl, h => by
  unfold uT
  by_cases hc : key (gD l (j + 1)) < key (gD l j)
  ·rw [decide_eq_true (E5.2 hc)]
   refine I8 j (swL l j) (by omega) (by rw [kI]; omega) ⟨λ p q h1 h2 h3 h4 => ?_, λ q h1 h2 => ?_⟩
   ·rw [AAZ (by omega), AAZ (by omega), decide_eq_false h3, decide_eq_false h4]
    by_cases hp : p = j + 1
    ·subst hp
     rw [decide_eq_true rfl, decide_eq_false (show ¬q = j + 1 by omega)]
     exact h.1 j q (by omega) h2 (by omega) (by omega)
    ·by_cases hq : q = j + 1
     ·subst hq
      rw [decide_eq_true rfl, decide_eq_false hp]
      exact h.1 p j (by omega) (by omega) hp (by omega)
     ·rw [decide_eq_false hp, decide_eq_false hq]
      exact h.1 p q h1 h2 hp hq
   ·rw [AAZ (by omega), AAZ (by omega), decide_eq_true rfl, decide_eq_false (show ¬q = j by omega)]
    by_cases hq : q = j + 1
    ·subst hq; rw [decide_eq_true rfl]; exact Int.le_of_lt hc
    ·rw [decide_eq_false hq]; exact h.2 q (by omega) h2
  ·rw [decide_eq_false (λ hx => hc (E5.1 hx))]
   intro p q h1 h2
   show key (gD l p) <= key (gD l q)
   by_cases hp : p = j + 1
   ·subst hp; exact h.2 q h1 h2
   ·by_cases hq : q = j + 1
    ·subst hq
     by_cases hpj : p = j
     ·subst hpj; omega
     ·have := h.1 p j (by omega) (by omega) hp (by omega); omega
    ·exact h.1 p q h1 h2 hp hq
theorem Q7 {key : Int -> Int} : ∀ (n i : Nat) (l : List Int), 1 <= i -> i + n = l.length -> upS key (i - 1) l -> upS key (l.length - 1) (stR key n i l)
 | 0, i, l, h1, h2, h => by
  rw [show l.length - 1 = i - 1 by omega]; exact h
 | n + 1, i, l, h1, h2, h => by
  unfold stR
  have hp := wR (key := key) i l (by omega)
  have := Q7 (key := key) n (i + 1) (uT key i l) (by omega) (by rw [hp.length_eq]; omega) (I8 i l (Nat.le_refl _) (by omega) ⟨λ p q a b c d => h p q a (by omega), λ q a b => by omega⟩)
  rw [hp.length_eq] at this; exact this
theorem U3 (key : Int -> Int) (l : List Int) : upS key (l.length - 1) (jI key l) := by
 unfold jI
 by_cases h : l.length = 0
 ·intro p q h1 h2; omega
 ·exact Q7 _ 1 l (Nat.le_refl _) (by omega) (λ p q a b => by omega)
theorem APJ {p : Int -> Bool} : ∀ {l : List Int}, (∀ t, t < l.length -> p (gD l t) = false) -> l.find? p = none
 | [], _ => rfl
 | a :: l, h => by
  have h0 : p a = false := h 0 (Nat.succ_pos _)
  rw [List.find?_cons, h0]
  exact APJ λ t ht => h (t + 1) (Nat.succ_lt_succ ht)
theorem AQS {p : Int -> Bool} : ∀ {l : List Int} {j : Nat}, j < l.length -> (∀ t, t < j -> p (gD l t) = false) -> p (gD l j) = true -> l.find? p = some (gD l j)
 | [], j, h, _, _ => absurd h (Nat.not_lt_zero _)
 | a :: l, 0, _, _, h2 => by
  have h0 : p a = true := h2
  rw [List.find?_cons, h0]; rfl
 | a :: l, j + 1, h, h1, h2 => by
  have h0 : p a = false := h1 0 (Nat.succ_pos _)
  rw [List.find?_cons, h0]
  exact AQS (l := l) (j := j) (Nat.lt_of_succ_lt_succ h) (λ t ht => h1 (t + 1) (Nat.succ_lt_succ ht)) h2
theorem cY {l : List Int} {k t : Nat} (h : t < k) : gD (l.take k) t = gD l t := by
 simp [gD, List.getD_eq_getElem?_getD, List.getElem?_take, h]
end Go.Bal
