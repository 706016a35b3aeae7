/- Package chart: what the sort returns (no program in sight). -/
import Derived.Test.YtdbjalgfomknhaaGreatChG1
import Derived.Test.YtdbjalgfomknhaaGreatChJ
set_option linter.unusedVariables false
set_option linter.unusedSimpArgs false
namespace Go.Bal
open Go Go.Sym Go.Proofs
theorem BJG {l : List Int} {i : Nat} (h : i < l.length) : l.drop i = gD l i :: l.drop (i + 1) := by
 rw [List.drop_eq_getElem_cons h]; simp [gD, List.getD_eq_getElem?_getD, h]
theorem AMN (l : List Int) (i j : Nat) : gD (l.drop i) j = gD l (i + j) := by
 simp [gD, List.getD_eq_getElem?_getD]
theorem BXC {α : Type} [Inhabited α] {l m : List α} (h : l.length = m.length) (h2 : ∀ i, i < l.length -> gD l i = gD m i) : l = m := by
 apply List.ext_getElem h
 intro i h3 h4
 have := h2 i h3
 simpa [gD, List.getD_eq_getElem?_getD, h3, h4] using this
theorem CBO {l : List Int} {j : Nat} (h : j + 1 < l.length) : l = l.take j ++ (gD l j :: gD l (j + 1) :: l.drop (j + 2)) /\ swL l j = l.take j ++ (gD l (j + 1) :: gD l j :: l.drop (j + 2)) := by
 have e : l.drop j = gD l j :: gD l (j + 1) :: l.drop (j + 2) := by
  rw [BJG (show j < l.length by omega), BJG (show j + 1 < l.length from h)]
 refine ⟨by rw [<- e, List.take_append_drop], ?_⟩
 apply BXC
 ·rw [lD]; simp; omega
 ·intro i hi
  rw [lD] at hi
  rw [AGJ h, Nw]
  have hl : (l.take j).length = j := by simp; omega
  by_cases h1 : i < j
  ·rw [if_pos (by rw [hl]; exact h1), decide_eq_false (show ¬i = j by omega), decide_eq_false (show ¬i = j + 1 by omega)]
   simp [gD, List.getD_eq_getElem?_getD, List.getElem?_take, h1]
  ·rw [if_neg (by rw [hl]; exact h1), hl]
   by_cases h2 : i = j
   ·subst h2; simp; rfl
   ·by_cases h3 : i = j + 1
    ·subst h3; rw [decide_eq_false h2, decide_eq_true rfl, show j + 1 - j = 1 by omega]; rfl
    ·rw [decide_eq_false h2, decide_eq_false h3]
     obtain ⟨m, rfl⟩ : ∃ m, i = j + 2 + m := ⟨i - j - 2, by omega⟩
     rw [show j + 2 + m - j = m + 2 by omega]
     show gD l (j + 2 + m) = gD (l.drop (j + 2)) m
     rw [AMN]
theorem BNH {l : List Int} {j : Nat} (h : j + 1 < l.length) : (swL l j).Perm l := by
 obtain ⟨h1, h2⟩ := CBO h
 rw [h2]
 conv => rhs; rw [h1]
 exact List.Perm.append_left _ (List.Perm.swap _ _ _)
theorem P3 {key : Int -> Int} : ∀ (j : Nat) (l : List Int), j < l.length -> (yU key j l).Perm l
 | 0, l, _ => List.Perm.refl _
 | j + 1, l, h => by
  unfold yU
  cases decide (Hz (key (gD l (j + 1))) (key (gD l j)) < 0)
  ·exact List.Perm.refl _
  ·exact (P3 j _ (by rw [lD]; omega)).trans (BNH h)
theorem ATB {key : Int -> Int} : ∀ (n i : Nat) (l : List Int), i + n <= l.length -> (stR key n i l).Perm l
 | 0, _, l, _ => List.Perm.refl _
 | n + 1, i, l, h => by
  unfold stR
  have hp := P3 (key := key) i l (by omega)
  exact (ATB n (i + 1) _ (by rw [hp.length_eq]; omega)).trans hp
theorem QQ (key : Int -> Int) (l : List Int) : (Xq key l).Perm l := by
 unfold Xq
 by_cases h : l.length = 0
 ·rw [h]; exact List.Perm.refl _
 ·exact ATB _ _ _ (by omega)
theorem sX {a b : Int} : Hz a b < 0 ↔ a < b := by
 unfold Hz
 by_cases h : a < b
 ·simp [h]
 ·by_cases h2 : b < a
  ·simp [h, h2]
  ·simp [h, h2]
def CAG (key : Int -> Int) (i j : Nat) (l : List Int) : Prop := (∀ p q, p < q -> q <= i -> p ≠ j -> q ≠ j -> key (gD l p) <= key (gD l q)) /\ ∀ q, j < q -> q <= i -> key (gD l j) <= key (gD l q)
def upS (key : Int -> Int) (i : Nat) (l : List Int) : Prop := ∀ p q, p < q -> q <= i -> key (gD l p) <= key (gD l q)
theorem W9 {key : Int -> Int} {i : Nat} : ∀ (j : Nat) (l : List Int), j <= i -> i < l.length -> CAG key i j l -> upS key i (yU key j l)
 | 0, l, _, hl, h => λ p q h1 h2 => by
  show key (gD l p) <= key (gD l q)
  by_cases hp : p = 0
  ·subst hp; exact h.2 q h1 h2
  ·exact h.1 p q h1 h2 hp (by omega)
 | j + 1, l, hj, hl, h => by
  unfold yU
  by_cases hc : key (gD l (j + 1)) < key (gD l j)
  ·rw [decide_eq_true (sX.2 hc)]
   refine W9 j (swL l j) (by omega) (by rw [lD]; omega) ⟨λ p q h1 h2 h3 h4 => ?_, λ q h1 h2 => ?_⟩
   ·rw [AGJ (by omega), AGJ (by omega), decide_eq_false h3, decide_eq_false h4]
    by_cases hp : p = j + 1
    ·subst hp
     rw [decide_eq_true rfl, decide_eq_false (show ¬q = j + 1 by omega)]
     exact h.1 j q (by omega) h2 (by omega) (by omega)
    ·by_cases hq : q = j + 1
     ·subst hq
      rw [decide_eq_true rfl, decide_eq_false hp]
      exact h.1 p j (by omega) (by omega) hp (by omega)
     ·rw [decide_eq_false hp, decide_eq_false hq]
      exact h.1 p q h1 h2 hp hq
   ·rw [AGJ (by omega), AGJ (by omega), decide_eq_true rfl, decide_eq_false (show ¬q = j by omega)]
    by_cases hq : q = j + 1
    ·subst hq; rw [decide_eq_true rfl]; exact Int.le_of_lt hc
    ·rw [decide_eq_false hq]; exact h.2 q (by omega) h2
  ·rw [decide_eq_false (λ hx => hc (sX.1 hx))]
   intro p q h1 h2
   show key (gD l p) <= key (gD l q)
   by_cases hp : p = j + 1
   ·subst hp; exact h.2 q h1 h2
   ·by_cases hq : q = j + 1
    ·subst hq
     by_cases hpj : p = j
     ·subst hpj; omega
     ·have := h.1 p j (by omega) (by omega) hp (by omega); omega
    ·exact h.1 p q h1 h2 hp hq
theorem AFI {key : Int -> Int} : ∀ (n i : Nat) (l : List Int), 1 <= i -> i + n = l.length -> upS key (i - 1) l -> upS key (l.length - 1) (stR key n i l)
 | 0, i, l, h1, h2, h => by
  rw [show l.length - 1 = i - 1 by omega]; exact h
 | n + 1, i, l, h1, h2, h => by
  unfold stR
  have hp := P3 (key := key) i l (by omega)
  have := AFI (key := key) n (i + 1) (yU key i l) (by omega) (by rw [hp.length_eq]; omega) (W9 i l (Nat.le_refl _) (by omega) ⟨λ p q a b c d => h p q a (by omega), λ q a b => by omega⟩)
  rw [hp.length_eq] at this; exact this
theorem Uv (key : Int -> Int) (l : List Int) : upS key (l.length - 1) (Xq key l) := by
 unfold Xq
 by_cases h : l.length = 0
 ·intro p q h1 h2; omega
 ·exact AFI _ 1 l (Nat.le_refl _) (by omega) (λ p q a b => by omega)
theorem AOK {p : Int -> Bool} : ∀ {l : List Int}, (∀ t, t < l.length -> p (gD l t) = false) -> l.find? p = none
 | [], _ => rfl
 | a :: l, h => by
  have h0 : p a = false := h 0 (Nat.succ_pos _)
  rw [List.find?_cons, h0]
  exact AOK λ t ht => h (t + 1) (Nat.succ_lt_succ ht)
theorem AXG {p : Int -> Bool} : ∀ {l : List Int} {j : Nat}, j < l.length -> (∀ t, t < j -> p (gD l t) = false) -> p (gD l j) = true -> l.find? p = some (gD l j)
 | [], j, h, _, _ => absurd h (Nat.not_lt_zero _)
 | a :: l, 0, _, _, h2 => by
  have h0 : p a = true := h2
  rw [List.find?_cons, h0]; rfl
 | a :: l, j + 1, h, h1, h2 => by
  have h0 : p a = false := h1 0 (Nat.succ_pos _)
  rw [List.find?_cons, h0]
  exact AXG (l := l) (j := j) (Nat.lt_of_succ_lt_succ h) (λ t ht => h1 (t + 1) (Nat.succ_lt_succ ht)) h2
theorem Ko {l : List Int} {k t : Nat} (h : t < k) : gD (l.take k) t = gD l t := by
 simp [gD, List.getD_eq_getElem?_getD, List.getElem?_take, h]
end Go.Bal

namespace Go.Bal
open Go Go.Sym Go.Proofs
def ndk (key : Int -> Int) (l : List Int) : Prop := (l.map key).Nodup
theorem xF {key : Int -> Int} {l m : List Int} (h : m.Perm l) : ndk key m ↔ ndk key l := (h.map key).nodup_iff
theorem C8 {key : Int -> Int} {l : List Int} (h : ndk key l) {i j : Nat} (hij : i < j) (hj : j < l.length) : key (gD l i) ≠ key (gD l j) := by
 have := List.pairwise_iff_getElem.1 h i j (by simpa using Nat.lt_trans hij hj) (by simpa using hj) hij
 simpa [gD, List.getD_eq_getElem?_getD, hj, Nat.lt_trans hij hj] using this
theorem BOY {key : Int -> Int} {l : List Int} (h : ndk key l) {a b : Int} (ha : a ∈ l) (hb : b ∈ l) (e : key a = key b) : a = b := by
 obtain ⟨i, hi, rfl⟩ := OV ha
 obtain ⟨j, hj, rfl⟩ := OV hb
 rcases Nat.lt_trichotomy i j with q | q | q
 ·exact absurd e (C8 h q hj)
 ·rw [q]
 ·exact absurd e.symm (C8 h q hi)
theorem BSU {key : Int -> Int} {l : List Int} (h : upS key (l.length - 1) l) : l.Pairwise λ a b => key a <= key b := List.pairwise_iff_getElem.2 λ i j hi hj hij => by
 have := h i j hij (by omega)
 simpa [gD, List.getD_eq_getElem?_getD, hi, hj] using this
theorem AMQ {key : Int -> Int} {l m : List Int} (hd : ndk key l) (hp : m.Perm l) (hs : upS key (m.length - 1) m) : m = Xq key l :=
 List.Perm.eq_of_pairwise (le := λ a b => key a <= key b) (λ a b ha hb h1 h2 => BOY hd (hp.mem_iff.1 ha) ((QQ key l).mem_iff.1 hb) (by omega)) (BSU hs) (BSU (by
  have := Uv key l
  rw [(QQ key l).length_eq]; exact this)) (hp.trans (QQ key l).symm)
def sw2 (l : List Int) (i j : Nat) : List Int := (l.set i (gD l j)).set j (gD l i)
theorem Sp (l : List Int) (i j : Nat) : (sw2 l i j).length = l.length := by simp [sw2]
theorem AMA {l : List Int} {i j x : Nat} (hi : i < l.length) (hj : j < l.length) : gD (sw2 l i j) x = bif decide (x = j) then gD l i else bif decide (x = i) then gD l j else gD l x := by
 unfold sw2
 rw [AAG (by simpa using hj), AAG hi]
theorem Wo {l : List Int} {i j : Nat} (hi : i < l.length) (hj : j < l.length) : (sw2 l i j).Perm l := by
 have := List.set_set_perm hi hj
 unfold sw2
 rw [show gD l i = l[i] by simp [gD, List.getD_eq_getElem?_getD, hi], show gD l j = l[j] by simp [gD, List.getD_eq_getElem?_getD, hj]]; exact this
def nT (A B : Nat) (l : List Int) : List Int := (l.take B).drop A
def wh (P m S : List Int) : List Int := P ++ (m ++ S)
def Xp (key : Int -> Int) (A B : Nat) (l : List Int) : List Int := wh (l.take A) (Xq key (nT A B l)) (l.drop B)
theorem Kg {A B : Nat} {l : List Int} (h : A <= B) (hB : B <= l.length) : (nT A B l).length = B - A := by
 unfold nT; rw [List.length_drop, List.length_take]; omega
theorem K2 {A B : Nat} {l : List Int} (hB : B <= l.length) {i : Nat} (hi : A + i < B) : gD (nT A B l) i = gD l (A + i) := by
 unfold nT
 rw [AMN, Ko hi]
theorem vU {A B : Nat} {l : List Int} (h : A <= B) (hB : B <= l.length) : wh (l.take A) (nT A B l) (l.drop B) = l := by
 have e : l.take A ++ nT A B l = l.take B := by
  have := List.take_append_drop A (l.take B)
  rw [List.take_take, Nat.min_eq_left h] at this
  exact this
 unfold wh
 rw [<- List.append_assoc, e, List.take_append_drop]
theorem BWU (P m S : List Int) : (wh P m S).length = P.length + (m.length + S.length) := by simp [wh]
theorem sG {P m S : List Int} {i : Nat} (hi : i < m.length) : gD (wh P m S) (P.length + i) = gD m i := by
 unfold wh
 rw [Nw, if_neg (by omega), Nw, if_pos (by omega), show P.length + i - P.length = i by omega]
theorem AQG {P m S : List Int} {i : Nat} (hi : i < P.length) : gD (wh P m S) i = gD P i := by
 unfold wh; rw [Nw, if_pos hi]
theorem ART {P m S : List Int} {i : Nat} (hi : P.length + m.length <= i) : gD (wh P m S) i = gD S (i - (P.length + m.length)) := by
 unfold wh
 rw [Nw, if_neg (by omega), Nw, if_neg (by omega)]
 congr 1; omega
theorem CBA {P m S : List Int} {j x : Nat} (hj : j + 1 < m.length) (hx : x < (wh P m S).length) : gD (wh P (swL m j) S) x = bif decide (x = P.length + j) then gD (wh P m S) (P.length + (j + 1)) else bif decide (x = P.length + (j + 1)) then gD (wh P m S) (P.length + j) else gD (wh P m S) x := by
 rw [sG hj, sG (show j < m.length by omega)]
 rcases Nat.lt_or_ge x P.length with q | q
 ·rw [AQG q, AQG q, decide_eq_false (by omega), decide_eq_false (by omega)]; rfl
 ·obtain ⟨y, rfl⟩ : ∃ y, x = P.length + y := ⟨x - P.length, by omega⟩
  rcases Nat.lt_or_ge y m.length with r | r
  ·rw [sG (by rw [lD]; exact r), sG r, AGJ hj]
   simp only [Nat.add_left_cancel_iff]
  ·rw [ART (by rw [lD]; omega), ART (by omega), lD, decide_eq_false (by omega), decide_eq_false (by omega)]; rfl
structure RsM (key : Int -> Int) (A B : Nat) (l m : List Int) : Prop where
 perm : m.Perm l
 lo : ∀ x, x < A -> gD m x = gD l x
 hi : ∀ x, B <= x -> gD m x = gD l x
 up : ∀ x y, A <= x -> x < y -> y < B -> key (gD m x) <= key (gD m y)
 of : ∀ x, A <= x -> x < B -> ∃ y, A <= y /\ y < B /\ gD m x = gD l y
theorem uP (key : Int -> Int) {A B : Nat} {l : List Int} (h : A <= B) (hB : B <= l.length) : RsM key A B l (Xp key A B l) := by
 have sl : (Xq key (nT A B l)).length = B - A := by rw [(QQ _ _).length_eq, Kg h hB]
 have tl : (l.take A).length = A := by rw [List.length_take]; omega
 have mid : ∀ i, i < B - A -> gD (Xp key A B l) (A + i) = gD (Xq key (nT A B l)) i := λ i hi => by
  have := sG (P := l.take A) (m := Xq key (nT A B l)) (S := l.drop B) (i := i) (by omega)
  rw [tl] at this; exact this
 refine ⟨?_, λ x hx => ?_, λ x hx => ?_, λ x y h1 h2 h3 => ?_, λ x h1 h2 => ?_⟩
 ·have e := vU h hB
  conv => rhs; rw [<- e]
  exact List.Perm.append_left _ (List.Perm.append_right _ (QQ _ _))
 ·unfold Xp; rw [AQG (by omega), Ko hx]
 ·unfold Xp; rw [ART (by omega), AMN, tl, sl]; congr 1; omega
 ·obtain ⟨i, rfl⟩ : ∃ i, x = A + i := ⟨x - A, by omega⟩
  obtain ⟨j, rfl⟩ : ∃ j, y = A + j := ⟨y - A, by omega⟩
  rw [mid _ (by omega), mid _ (by omega)]
  exact Uv key (nT A B l) i j (by omega) (by rw [Kg h hB]; omega)
 ·obtain ⟨i, rfl⟩ : ∃ i, x = A + i := ⟨x - A, by omega⟩
  rw [mid _ (by omega)]
  have hm : gD (Xq key (nT A B l)) i ∈ nT A B l := (QQ _ _).mem_iff.1 (HW (by omega))
  obtain ⟨y, hy, e⟩ := OV hm
  rw [Kg h hB] at hy
  exact ⟨A + y, by omega, by omega, by rw [<- e, K2 hB (by omega)]⟩
structure PtR where
 j : Nat
 l : List Int
def XG (key : Int -> Int) (dn : Bool) (i j : Nat) (l : List Int) : PtR :=
 if dn = false then
  if i <= j /\ key (gD l i) < key (gD l 0) then XG key false (i + 1) j l else XG key true i j l
 else if 1 <= j /\ i <= j /\ ¬ key (gD l j) < key (gD l 0) then XG key true i (j - 1) l
 else if i > j then ⟨j, l⟩ else XG key false (i + 1) (j - 1) (sw2 l i j)
termination_by 2 * (j + 1 - i) + (if dn then 0 else 1)
decreasing_by all_goals (simp_all; try omega)
structure PtI (key : Int -> Int) (l0 : List Int) (i j : Nat) (l : List Int) : Prop where
 perm : l.Perm l0
 pos : 1 <= i /\ j < l0.length /\ i <= j + 1
 lo : ∀ x, 1 <= x -> x < i -> key (gD l x) < key (gD l 0)
 hi : ∀ x, j < x -> x < l0.length -> ¬ key (gD l x) < key (gD l 0)
 at0 : gD l 0 = gD l0 0
theorem PtI.sw {key : Int -> Int} {l0 l : List Int} {i j : Nat} (h : PtI key l0 i j l) (h1 : i <= j) (h2 : ¬ key (gD l i) < key (gD l 0)) (h3 : key (gD l j) < key (gD l 0)) : i < j /\ PtI key l0 (i + 1) (j - 1) (sw2 l i j) := by
 have hl := h.perm.length_eq
 have hp := h.pos
 have hij : i < j := by
  rcases Nat.lt_or_ge i j with q | q
  ·exact q
  ·have : i = j := by omega
   subst this; exact absurd h3 h2
 have hi : i < l.length := by omega
 have hj : j < l.length := by omega
 have g := λ x => AMA (x := x) hi hj
 have g0 : gD (sw2 l i j) 0 = gD l 0 := by rw [g, decide_eq_false (show ¬0 = j by omega), decide_eq_false (show ¬0 = i by omega)]; rfl
 refine ⟨hij, (Wo hi hj).trans h.perm, ⟨by omega, by omega, by omega⟩, λ x x1 x2 => ?_, λ x x1 x2 => ?_, g0.trans h.at0⟩
 ·rw [g0, g]
  by_cases a : x = i
  ·rw [decide_eq_false (show ¬x = j by omega), decide_eq_true a]; exact h3
  ·rw [decide_eq_false (show ¬x = j by omega), decide_eq_false a]; exact h.lo x x1 (by omega)
 ·rw [g0, g]
  by_cases a : x = j
  ·rw [decide_eq_true a]; exact h2
  ·rw [decide_eq_false a, decide_eq_false (show ¬x = i by omega)]; exact h.hi x (by omega) x2
theorem lW {key : Int -> Int} {l0 : List Int} (dn : Bool) (i j : Nat) (l : List Int) (h : PtI key l0 i j l) (hd : dn = true -> i <= j -> ¬ key (gD l i) < key (gD l 0)) : PtI key l0 ((XG key dn i j l).j + 1) (XG key dn i j l).j (XG key dn i j l).l := by
 unfold XG
 have hp := h.pos
 split
 ·rename_i e; subst e
  split
  ·rename_i q
   refine lW false (i + 1) j l ⟨h.perm, ⟨by omega, hp.2.1, by omega⟩, λ x x1 x2 => ?_, h.hi, h.at0⟩ (λ e => by cases e)
   by_cases a : x = i
   ·subst a; exact q.2
   ·exact h.lo x x1 (by omega)
  ·rename_i q
   exact lW true i j l h (λ _ h1 h2 => q ⟨h1, h2⟩)
 ·rename_i e
  have e : dn = true := by simpa using e
  subst e
  split
  ·rename_i q
   refine lW true i (j - 1) l ⟨h.perm, ⟨hp.1, by omega, by omega⟩, h.lo, λ x x1 x2 => ?_, h.at0⟩ (λ _ h1 => hd rfl (by omega))
   by_cases a : x = j
   ·subst a; exact q.2.2
   ·exact h.hi x (by omega) x2
  ·rename_i q
   split
   ·rename_i r
    exact ⟨h.perm, ⟨Nat.succ_pos _, hp.2.1, Nat.le_refl _⟩, λ x x1 x2 => h.lo x x1 (by have x2 : x < j + 1 := x2; omega), h.hi, h.at0⟩
   ·rename_i r
    have r : i <= j := by omega
    have k3 : key (gD l j) < key (gD l 0) := by
     by_cases k : key (gD l j) < key (gD l 0)
     ·exact k
     ·exact absurd ⟨by omega, r, k⟩ q
    exact lW false (i + 1) (j - 1) (sw2 l i j) (h.sw r (hd rfl r) k3).2 (λ e => by cases e)
termination_by 2 * (j + 1 - i) + (if dn then 0 else 1)
decreasing_by all_goals (simp_all; try omega)
def ptS (l : List Int) (p : Nat) : List Int := sw2 l 0 p
def ptM (key : Int -> Int) (l : List Int) (p : Nat) : PtR := XG key false 1 (l.length - 1) (ptS l p)
def ptL (key : Int -> Int) (l : List Int) (p : Nat) : List Int := sw2 (ptM key l p).l (ptM key l p).j 0
structure PtK (key : Int -> Int) (P : Int) (k : Nat) (l m : List Int) : Prop where
 perm : m.Perm l
 pos : k < l.length
 lo : ∀ x, x < k -> key (gD m x) < key P
 hi : ∀ x, k < x -> x < l.length -> ¬ key (gD m x) < key P
 at0 : gD m k = P
theorem BWF {key : Int -> Int} {l : List Int} {p : Nat} (hp : p < l.length) : PtK key (gD l p) (ptM key l p).j l (ptL key l p) := by
 have h0 : 0 < l.length := by omega
 have hs := Wo h0 hp
 have e0 : gD (ptS l p) 0 = gD l p := by
  unfold ptS
  rw [AMA h0 hp]
  by_cases a : 0 = p
  ·rw [decide_eq_true a, <- a]; rfl
  ·rw [decide_eq_false a]; rfl
 have I : PtI key (ptS l p) 1 (l.length - 1) (ptS l p) := ⟨List.Perm.refl _, ⟨Nat.le_refl _, by unfold ptS; rw [Sp]; omega, by omega⟩, λ x h1 h2 => by omega, λ x h1 h2 => by unfold ptS at h2; rw [Sp] at h2; omega, rfl⟩
 have R := lW false 1 (l.length - 1) (ptS l p) I (λ e => by cases e)
 have R : PtI key (ptS l p) ((ptM key l p).j + 1) (ptM key l p).j (ptM key l p).l := R
 obtain ⟨perm, ⟨_, pos, _⟩, lo, hi, at0⟩ := R
 unfold ptL
 generalize ptM key l p = r at *
 have sl : (ptS l p).length = l.length := Sp _ _ _
 have rl : r.l.length = l.length := perm.length_eq.trans sl
 rw [sl] at pos hi
 have e0 : gD r.l 0 = gD l p := at0.trans e0
 rw [e0] at lo hi
 have g := λ x => AMA (l := r.l) (i := r.j) (j := 0) (x := x) (by omega) (by omega)
 refine ⟨(Wo (by omega) (by omega)).trans (perm.trans hs), pos, λ x hx => ?_, λ x hx h2 => ?_, ?_⟩
 ·rw [g]
  by_cases a : x = 0
  ·rw [decide_eq_true a]; exact lo _ (by omega) (by omega)
  ·rw [decide_eq_false a, decide_eq_false (show ¬x = r.j by omega)]; exact lo _ (by omega) (by omega)
 ·rw [g, decide_eq_false (show ¬x = 0 by omega), decide_eq_false (show ¬x = r.j by omega)]; exact hi x hx h2
 ·rw [g]
  by_cases a : r.j = 0
  ·rw [decide_eq_true a, a]; exact e0
  ·rw [decide_eq_false a, decide_eq_true rfl]; exact e0
def o2L (key : Int -> Int) (l : List Int) (a b : Int) : Bool := decide (Hz (key (gD l b.toNat)) (key (gD l a.toNat)) < 0)
def o2A (key : Int -> Int) (l : List Int) (a b : Int) : Int := bif o2L key l a b then b else a
def o2B (key : Int -> Int) (l : List Int) (a b : Int) : Int := bif o2L key l a b then a else b
def o2S (key : Int -> Int) (l : List Int) (a b s : Int) : Int := bif o2L key l a b then wr (s + 1) else s
def mnB (key : Int -> Int) (l : List Int) (a b c : Int) : Int := o2A key l (o2B key l a b) c
def mnM (key : Int -> Int) (l : List Int) (a b c : Int) : Int := o2B key l (o2A key l a b) (mnB key l a b c)
def mnS (key : Int -> Int) (l : List Int) (a b c s : Int) : Int := o2S key l (o2A key l a b) (mnB key l a b c) (o2S key l (o2B key l a b) c (o2S key l a b s))
theorem BOF {key : Int -> Int} {l : List Int} {a b : Int} : o2L key l a b = true ↔ key (gD l b.toNat) < key (gD l a.toNat) := by
 unfold o2L; rw [decide_eq_true_eq, sX]
theorem AVU (key : Int -> Int) (l : List Int) (a b : Int) {s n : Int} (h : 0 <= s /\ s <= n) (hn : n <= 100) : 0 <= o2S key l a b s /\ o2S key l a b s <= n + 1 := by
 unfold o2S
 cases o2L key l a b with
 | false => exact ⟨h.1, by show s <= n + 1; omega⟩
 | true => show 0 <= wr (s + 1) /\ wr (s + 1) <= n + 1; rw [show wr (s + 1) = s + 1 from TC (by omega) (by omega)]; omega
theorem BYD (key : Int -> Int) (l : List Int) (a b c : Int) : 0 <= mnS key l a b c 0 /\ mnS key l a b c 0 <= 3 := AVU key l _ _ (AVU key l _ _ (AVU key l _ _ ⟨Int.le_refl 0, Int.le_refl 0⟩ (by omega)) (by omega)) (by omega)
def fE (key : Int -> Int) (l : List Int) : Nat -> Bool
 | 0 => true
 | n + 1 => fE key l n && !decide (Hz (key (gD l (n + 1))) (key (gD l n)) < 0)
theorem BAY {key : Int -> Int} {l : List Int} : ∀ n, fE key l n = true -> ∀ p q, p < q -> q <= n -> key (gD l p) <= key (gD l q)
 | 0, _, p, q, h1, h2 => by omega
 | n + 1, h, p, q, h1, h2 => by
  unfold fE at h
  rw [Bool.and_eq_true, Bool.not_eq_true', decide_eq_false_iff_not, sX] at h
  have ih := BAY n h.1
  rcases Nat.lt_or_ge n q with a | a
  ·obtain rfl : q = n + 1 := by omega
   rcases Nat.lt_or_ge p n with b | b
   ·have := ih p n b (Nat.le_refl _); omega
   ·obtain rfl : p = n := by omega
    omega
  ·exact ih p q h1 a
theorem BVB {key : Int -> Int} {P : Int} {k : Nat} {l m r s : List Int} (h : PtK key P k l m) (hh : (RsM key 0 k m r /\ RsM key (k + 1) l.length r s) ∨ RsM key (k + 1) l.length m r /\ RsM key 0 k r s) : s.Perm l /\ upS key (l.length - 1) s := by
 have hp := h.pos
 have fin : ∀ s : List Int, (∀ x, x < k -> key (gD s x) < key P) -> (∀ x, k < x -> x < l.length -> ¬ key (gD s x) < key P) -> gD s k = P -> (∀ x y, 0 <= x -> x < y -> y < k -> key (gD s x) <= key (gD s y)) -> (∀ x y, k + 1 <= x -> x < y -> y < l.length -> key (gD s x) <= key (gD s y)) -> upS key (l.length - 1) s := λ s a1 a2 a3 a4 a5 p q hpq hq => by
  rcases Nat.lt_trichotomy q k with b | b | b
  ·exact a4 p q (Nat.zero_le _) hpq b
  ·subst b; have := a1 p hpq; rw [a3]; omega
  ·have h8 := a2 q b (by omega)
   rcases Nat.lt_trichotomy p k with c | c | c
   ·have := a1 p c; omega
   ·subst c; rw [a3]; omega
   ·exact a5 p q c hpq (by omega)
 rcases hh with ⟨h1, H⟩ | ⟨h1, H⟩
 ·refine ⟨H.perm.trans (h1.perm.trans h.perm), fin s (λ x hx => ?_) (λ x hx hx2 => ?_) ?_ (λ x y _ q1 q2 => ?_) H.up⟩
  ·rw [H.lo x (by omega)]
   obtain ⟨y, _, y2, e⟩ := h1.of x (Nat.zero_le _) hx
   rw [e]; exact h.lo y y2
  ·obtain ⟨y, y1, y2, e⟩ := H.of x hx hx2
   rw [e, h1.hi y (by omega)]; exact h.hi y y1 y2
  ·rw [H.lo k (by omega), h1.hi k (Nat.le_refl _)]; exact h.at0
  ·rw [H.lo x (by omega), H.lo y (by omega)]; exact h1.up x y (Nat.zero_le _) q1 q2
 ·refine ⟨H.perm.trans (h1.perm.trans h.perm), fin s (λ x hx => ?_) (λ x hx hx2 => ?_) ?_ H.up (λ x y q0 q1 q2 => ?_)⟩
  ·obtain ⟨y, _, y2, e⟩ := H.of x (Nat.zero_le _) hx
   rw [e, h1.lo y (by omega)]; exact h.lo y y2
  ·rw [H.hi x (by omega)]
   obtain ⟨y, y1, y2, e⟩ := h1.of x hx hx2
   rw [e]; exact h.hi y y1 y2
  ·rw [H.hi k (Nat.le_refl _), h1.lo k (by omega)]; exact h.at0
  ·rw [H.hi x (by omega), H.hi y (by omega)]; exact h1.up x y q0 q1 q2
theorem BLG {key : Int -> Int} {l m : List Int} {p k : Nat} (h : PtK key (gD l p) k l m) (hx : ∃ x, x < l.length /\ key (gD l x) < key (gD l p)) (hy : ∃ y, y < l.length /\ key (gD l p) < key (gD l y)) : 0 < k /\ k + 1 < l.length := by
 have hp := h.pos
 have hl := h.perm.length_eq
 obtain ⟨x, x1, x2⟩ := hx
 obtain ⟨y, y1, y2⟩ := hy
 have fx : gD l x ∈ m := h.perm.mem_iff.2 (HW x1)
 have fy : gD l y ∈ m := h.perm.mem_iff.2 (HW y1)
 obtain ⟨i, hi, ei⟩ := OV fx
 obtain ⟨j, hj, ej⟩ := OV fy
 rw [<- ei] at x2
 rw [<- ej] at y2
 constructor
 ·rcases Nat.eq_zero_or_pos k with q | q
  ·subst q
   rcases Nat.eq_zero_or_pos i with r | r
   ·subst r; rw [h.at0] at x2; omega
   ·exact absurd x2 (h.hi i r (by omega))
  ·exact q
 ·rcases Nat.lt_or_ge (k + 1) l.length with q | q
  ·exact q
  ·rcases Nat.lt_or_ge j k with r | r
   ·have := h.lo j r; omega
   ·obtain rfl : j = k := by omega
    rw [h.at0] at y2; omega
end Go.Bal
