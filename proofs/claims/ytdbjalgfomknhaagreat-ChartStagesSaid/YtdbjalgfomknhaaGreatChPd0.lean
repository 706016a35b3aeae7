/- Package chart: what slices.SortFunc does with 13 and 14 elements (no program in sight). -/
import Derived.Test.YtdbjalgfomknhaaGreatChS
set_option linter.unusedVariables false
set_option linter.unusedSimpArgs false
namespace Go.Bal
open Go Go.Sym Go.Proofs
def ndk (key : Int -> Int) (l : List Int) : Prop := (l.map key).Nodup
theorem ABA {key : Int -> Int} {l : List Int} (h : ndk key l) {i j : Nat} (hij : i < j) (hj : j < l.length) : key (gD l i) ≠ key (gD l j) := by
 have := List.pairwise_iff_getElem.1 h i j (by simpa using Nat.lt_trans hij hj) (by simpa using hj) hij
 simpa [gD, List.getD_eq_getElem?_getD, hj, Nat.lt_trans hij hj] using this
theorem BGC {key : Int -> Int} {l : List Int} (h : ndk key l) {a b : Int} (ha : a ∈ l) (hb : b ∈ l) (e : key a = key b) : a = b := by
 obtain ⟨i, hi, rfl⟩ := YH ha
 obtain ⟨j, hj, rfl⟩ := YH hb
 rcases Nat.lt_trichotomy i j with q | q | q
 ·exact absurd e (ABA h q hj)
 ·rw [q]
 ·exact absurd e.symm (ABA h q hi)
theorem BHW {key : Int -> Int} {l : List Int} (h : upS key (l.length - 1) l) : l.Pairwise λ a b => key a <= key b := List.pairwise_iff_getElem.2 λ i j hi hj hij => by
 have := h i j hij (by omega)
 simpa [gD, List.getD_eq_getElem?_getD, hi, hj] using this
theorem AQK {key : Int -> Int} {l m : List Int} (hd : ndk key l) (hp : m.Perm l) (hs : upS key (m.length - 1) m) : m = jI key l :=
 List.Perm.eq_of_pairwise (le := λ a b => key a <= key b) (λ a b ha hb h1 h2 => BGC hd (hp.mem_iff.1 ha) ((Uo key l).mem_iff.1 hb) (by omega)) (BHW hs) (BHW (by
  have := U3 key l
  rw [(Uo key l).length_eq]; exact this)) (hp.trans (Uo key l).symm)
def sw2 (l : List Int) (i j : Nat) : List Int := (l.set i (gD l j)).set j (gD l i)
theorem nQ (l : List Int) (i j : Nat) : (sw2 l i j).length = l.length := by simp [sw2]
theorem rZ {l : List Int} {i j x : Nat} (hi : i < l.length) (hj : j < l.length) : gD (sw2 l i j) x = bif decide (x = j) then gD l i else bif decide (x = i) then gD l j else gD l x := by
 unfold sw2
 rw [N1 (by simpa using hj), N1 hi]
theorem bB {l : List Int} {i j : Nat} (hi : i < l.length) (hj : j < l.length) : (sw2 l i j).Perm l := by
 have := List.set_set_perm hi hj
 unfold sw2
 rw [show gD l i = l[i] by simp [gD, List.getD_eq_getElem?_getD, hi], show gD l j = l[j] by simp [gD, List.getD_eq_getElem?_getD, hj]]; exact this
def M4 (A B : Nat) (l : List Int) : List Int := (l.take B).drop A
def wh (P m S : List Int) : List Int := P ++ (m ++ S)
def K9 (key : Int -> Int) (A B : Nat) (l : List Int) : List Int := wh (l.take A) (jI key (M4 A B l)) (l.drop B)
theorem M1 {A B : Nat} {l : List Int} (h : A <= B) (hB : B <= l.length) : (M4 A B l).length = B - A := by
 unfold M4; rw [List.length_drop, List.length_take]; omega
theorem AUO {A B : Nat} {l : List Int} (hB : B <= l.length) {i : Nat} (hi : A + i < B) : gD (M4 A B l) i = gD l (A + i) := by
 unfold M4
 rw [AIM, cY hi]
theorem AXO {A B : Nat} {l : List Int} (h : A <= B) (hB : B <= l.length) : wh (l.take A) (M4 A B l) (l.drop B) = l := by
 have e : l.take A ++ M4 A B l = l.take B := by
  have := List.take_append_drop A (l.take B)
  rw [List.take_take, Nat.min_eq_left h] at this
  exact this
 unfold wh
 rw [<- List.append_assoc, e, List.take_append_drop]
theorem BND (P m S : List Int) : (wh P m S).length = P.length + (m.length + S.length) := by simp [wh]
theorem xW {P m S : List Int} {i : Nat} (hi : i < m.length) : gD (wh P m S) (P.length + i) = gD m i := by
 unfold wh
 rw [Ma, if_neg (by omega), Ma, if_pos (by omega), show P.length + i - P.length = i by omega]
theorem BAH {P m S : List Int} {i : Nat} (hi : i < P.length) : gD (wh P m S) i = gD P i := by
 unfold wh; rw [Ma, if_pos hi]
theorem AVE {P m S : List Int} {i : Nat} (hi : P.length + m.length <= i) : gD (wh P m S) i = gD S (i - (P.length + m.length)) := by
 unfold wh
 rw [Ma, if_neg (by omega), Ma, if_neg (by omega)]
 congr 1; omega
theorem BPR {P m S : List Int} {j x : Nat} (hj : j + 1 < m.length) (hx : x < (wh P m S).length) : gD (wh P (swL m j) S) x = bif decide (x = P.length + j) then gD (wh P m S) (P.length + (j + 1)) else bif decide (x = P.length + (j + 1)) then gD (wh P m S) (P.length + j) else gD (wh P m S) x := by
 rw [xW hj, xW (show j < m.length by omega)]
 rcases Nat.lt_or_ge x P.length with q | q
 ·rw [BAH q, BAH q, decide_eq_false (by omega), decide_eq_false (by omega)]; rfl
 ·obtain ⟨y, rfl⟩ : ∃ y, x = P.length + y := ⟨x - P.length, by omega⟩
  rcases Nat.lt_or_ge y m.length with r | r
  ·rw [xW (by rw [kI]; exact r), xW r, AAZ hj]
   simp only [Nat.add_left_cancel_iff]
  ·rw [AVE (by rw [kI]; omega), AVE (by omega), kI, decide_eq_false (by omega), decide_eq_false (by omega)]; rfl
structure RsM (key : Int -> Int) (A B : Nat) (l m : List Int) : Prop where
 perm : m.Perm l
 lo : ∀ x, x < A -> gD m x = gD l x
 hi : ∀ x, B <= x -> gD m x = gD l x
 up : ∀ x y, A <= x -> x < y -> y < B -> key (gD m x) <= key (gD m y)
 of : ∀ x, A <= x -> x < B -> ∃ y, A <= y /\ y < B /\ gD m x = gD l y
theorem AFE (key : Int -> Int) {A B : Nat} {l : List Int} (h : A <= B) (hB : B <= l.length) : RsM key A B l (K9 key A B l) := by
 have sl : (jI key (M4 A B l)).length = B - A := by rw [(Uo _ _).length_eq, M1 h hB]
 have tl : (l.take A).length = A := by rw [List.length_take]; omega
 have mid : ∀ i, i < B - A -> gD (K9 key A B l) (A + i) = gD (jI key (M4 A B l)) i := λ i hi => by
  have := xW (P := l.take A) (m := jI key (M4 A B l)) (S := l.drop B) (i := i) (by omega)
  rw [tl] at this; exact this
 refine ⟨?_, λ x hx => ?_, λ x hx => ?_, λ x y h1 h2 h3 => ?_, λ x h1 h2 => ?_⟩
 ·have e := AXO h hB
  conv => rhs; rw [<- e]
  exact List.Perm.append_left _ (List.Perm.append_right _ (Uo _ _))
 ·unfold K9; rw [BAH (by omega), cY hx]
 ·unfold K9; rw [AVE (by omega), AIM, tl, sl]; congr 1; omega
 ·obtain ⟨i, rfl⟩ : ∃ i, x = A + i := ⟨x - A, by omega⟩
  obtain ⟨j, rfl⟩ : ∃ j, y = A + j := ⟨y - A, by omega⟩
  rw [mid _ (by omega), mid _ (by omega)]
  exact U3 key (M4 A B l) i j (by omega) (by rw [M1 h hB]; omega)
 ·obtain ⟨i, rfl⟩ : ∃ i, x = A + i := ⟨x - A, by omega⟩
  rw [mid _ (by omega)]
  have hm : gD (jI key (M4 A B l)) i ∈ M4 A B l := (Uo _ _).mem_iff.1 (WR (by omega))
  obtain ⟨y, hy, e⟩ := YH hm
  rw [M1 h hB] at hy
  exact ⟨A + y, by omega, by omega, by rw [<- e, AUO hB (by omega)]⟩
structure PtR where
 j : Nat
 l : List Int
def YV (key : Int -> Int) (dn : Bool) (i j : Nat) (l : List Int) : PtR :=
 if dn = false then
  if i <= j /\ key (gD l i) < key (gD l 0) then YV key false (i + 1) j l else YV key true i j l
 else if 1 <= j /\ i <= j /\ ¬ key (gD l j) < key (gD l 0) then YV key true i (j - 1) l
 else if i > j then ⟨j, l⟩ else YV key false (i + 1) (j - 1) (sw2 l i j)
termination_by 2 * (j + 1 - i) + (if dn then 0 else 1)
decreasing_by all_goals (simp_all; try omega)
structure PtI (key : Int -> Int) (l0 : List Int) (i j : Nat) (l : List Int) : Prop where
 perm : l.Perm l0
 pos : 1 <= i /\ j < l0.length /\ i <= j + 1
 lo : ∀ x, 1 <= x -> x < i -> key (gD l x) < key (gD l 0)
 hi : ∀ x, j < x -> x < l0.length -> ¬ key (gD l x) < key (gD l 0)
 at0 : gD l 0 = gD l0 0
theorem PtI.sw {key : Int -> Int} {l0 l : List Int} {i j : Nat} (h : PtI key l0 i j l) (h1 : i <= j) (h2 : ¬ key (gD l i) < key (gD l 0)) (h3 : key (gD l j) < key (gD l 0)) : i < j /\ PtI key l0 (i + 1) (j - 1) (sw2 l i j) := by
 have hl := h.perm.length_eq
 have hp := h.pos
 have hij : i < j := by
  rcases Nat.lt_or_ge i j with q | q
  ·exact q
  ·have : i = j := by omega
   subst this; exact absurd h3 h2
 have hi : i < l.length := by omega
 have hj : j < l.length := by omega
 have g := λ x => rZ (x := x) hi hj
 have g0 : gD (sw2 l i j) 0 = gD l 0 := by rw [g, decide_eq_false (show ¬0 = j by omega), decide_eq_false (show ¬0 = i by omega)]; rfl
 refine ⟨hij, (bB hi hj).trans h.perm, ⟨by omega, by omega, by omega⟩, λ x x1 x2 => ?_, λ x x1 x2 => ?_, g0.trans h.at0⟩
 ·rw [g0, g]
  by_cases a : x = i
  ·rw [decide_eq_false (show ¬x = j by omega), decide_eq_true a]; exact h3
  ·rw [decide_eq_false (show ¬x = j by omega), decide_eq_false a]; exact h.lo x x1 (by omega)
 ·rw [g0, g]
  by_cases a : x = j
  ·rw [decide_eq_true a]; exact h2
  ·rw [decide_eq_false a, decide_eq_false (show ¬x = i by omega)]; exact h.hi x (by omega) x2
theorem jC {key : Int -> Int} {l0 : List Int} (dn : Bool) (i j : Nat) (l : List Int) (h : PtI key l0 i j l) (hd : dn = true -> i <= j -> ¬ key (gD l i) < key (gD l 0)) : PtI key l0 ((YV key dn i j l).j + 1) (YV key dn i j l).j (YV key dn i j l).l := by
 unfold YV
 have hp := h.pos
 split
 ·rename_i e; subst e
  split
  ·rename_i q
   refine jC false (i + 1) j l ⟨h.perm, ⟨by omega, hp.2.1, by omega⟩, λ x x1 x2 => ?_, h.hi, h.at0⟩ (λ e => by cases e)
   by_cases a : x = i
   ·subst a; exact q.2
   ·exact h.lo x x1 (by omega)
  ·rename_i q
   exact jC true i j l h (λ _ h1 h2 => q ⟨h1, h2⟩)
 ·rename_i e
  have e : dn = true := by simpa using e
  subst e
  split
  ·rename_i q
   refine jC true i (j - 1) l ⟨h.perm, ⟨hp.1, by omega, by omega⟩, h.lo, λ x x1 x2 => ?_, h.at0⟩ (λ _ h1 => hd rfl (by omega))
   by_cases a : x = j
   ·subst a; exact q.2.2
   ·exact h.hi x (by omega) x2
  ·rename_i q
   split
   ·rename_i r
    exact ⟨h.perm, ⟨Nat.succ_pos _, hp.2.1, Nat.le_refl _⟩, λ x x1 x2 => h.lo x x1 (by have x2 : x < j + 1 := x2; omega), h.hi, h.at0⟩
   ·rename_i r
    have r : i <= j := by omega
    have k3 : key (gD l j) < key (gD l 0) := by
     by_cases k : key (gD l j) < key (gD l 0)
     ·exact k
     ·exact absurd ⟨by omega, r, k⟩ q
    exact jC false (i + 1) (j - 1) (sw2 l i j) (h.sw r (hd rfl r) k3).2 (λ e => by cases e)
termination_by 2 * (j + 1 - i) + (if dn then 0 else 1)
decreasing_by all_goals (simp_all; try omega)
def ptS (l : List Int) (p : Nat) : List Int := sw2 l 0 p
def ptM (key : Int -> Int) (l : List Int) (p : Nat) : PtR := YV key false 1 (l.length - 1) (ptS l p)
def ptL (key : Int -> Int) (l : List Int) (p : Nat) : List Int := sw2 (ptM key l p).l (ptM key l p).j 0
structure PtK (key : Int -> Int) (P : Int) (k : Nat) (l m : List Int) : Prop where
 perm : m.Perm l
 pos : k < l.length
 lo : ∀ x, x < k -> key (gD m x) < key P
 hi : ∀ x, k < x -> x < l.length -> ¬ key (gD m x) < key P
 at0 : gD m k = P
theorem BLH {key : Int -> Int} {l : List Int} {p : Nat} (hp : p < l.length) : PtK key (gD l p) (ptM key l p).j l (ptL key l p) := by
 have h0 : 0 < l.length := by omega
 have hs := bB h0 hp
 have e0 : gD (ptS l p) 0 = gD l p := by
  unfold ptS
  rw [rZ h0 hp]
  by_cases a : 0 = p
  ·rw [decide_eq_true a, <- a]; rfl
  ·rw [decide_eq_false a]; rfl
 have I : PtI key (ptS l p) 1 (l.length - 1) (ptS l p) := ⟨List.Perm.refl _, ⟨Nat.le_refl _, by unfold ptS; rw [nQ]; omega, by omega⟩, λ x h1 h2 => by omega, λ x h1 h2 => by unfold ptS at h2; rw [nQ] at h2; omega, rfl⟩
 have R := jC false 1 (l.length - 1) (ptS l p) I (λ e => by cases e)
 have R : PtI key (ptS l p) ((ptM key l p).j + 1) (ptM key l p).j (ptM key l p).l := R
 obtain ⟨perm, ⟨_, pos, _⟩, lo, hi, at0⟩ := R
 unfold ptL
 generalize ptM key l p = r at *
 have sl : (ptS l p).length = l.length := nQ _ _ _
 have rl : r.l.length = l.length := perm.length_eq.trans sl
 rw [sl] at pos hi
 have e0 : gD r.l 0 = gD l p := at0.trans e0
 rw [e0] at lo hi
 have g := λ x => rZ (l := r.l) (i := r.j) (j := 0) (x := x) (by omega) (by omega)
 refine ⟨(bB (by omega) (by omega)).trans (perm.trans hs), pos, λ x hx => ?_, λ x hx h2 => ?_, ?_⟩
 ·rw [g]
  by_cases a : x = 0
  ·rw [decide_eq_true a]; exact lo _ (by omega) (by omega)
  ·rw [decide_eq_false a, decide_eq_false (show ¬x = r.j by omega)]; exact lo _ (by omega) (by omega)
 ·rw [g, decide_eq_false (show ¬x = 0 by omega), decide_eq_false (show ¬x = r.j by omega)]; exact hi x hx h2
 ·rw [g]
  by_cases a : r.j = 0
  ·rw [decide_eq_true a, a]; exact e0
  ·rw [decide_eq_false a, decide_eq_true rfl]; exact e0
def o2L (key : Int -> Int) (l : List Int) (a b : Int) : Bool := decide (iE (key (gD l b.toNat)) (key (gD l a.toNat)) < 0)
def o2A (key : Int -> Int) (l : List Int) (a b : Int) : Int := bif o2L key l a b then b else a
def o2B (key : Int -> Int) (l : List Int) (a b : Int) : Int := bif o2L key l a b then a else b
def o2S (key : Int -> Int) (l : List Int) (a b s : Int) : Int := bif o2L key l a b then wr (s + 1) else s
def mnB (key : Int -> Int) (l : List Int) (a b c : Int) : Int := o2A key l (o2B key l a b) c
def mnM (key : Int -> Int) (l : List Int) (a b c : Int) : Int := o2B key l (o2A key l a b) (mnB key l a b c)
def mnS (key : Int -> Int) (l : List Int) (a b c s : Int) : Int := o2S key l (o2A key l a b) (mnB key l a b c) (o2S key l (o2B key l a b) c (o2S key l a b s))
theorem BDH {key : Int -> Int} {l : List Int} {a b : Int} : o2L key l a b = true ↔ key (gD l b.toNat) < key (gD l a.toNat) := by
 unfold o2L; rw [decide_eq_true_eq, E5]
theorem BOF {key : Int -> Int} {l : List Int} (hd : ndk key l) {a b c : Nat} (h1 : a < b) (h2 : b < c) (h3 : c < l.length) : ∃ p, p < l.length /\ mnM key l a b c = (p : Int) /\ (∃ x, x < l.length /\ key (gD l x) < key (gD l p)) /\ ∃ y, y < l.length /\ key (gD l p) < key (gD l y) := by
 have n1 := ABA hd h1 (by omega)
 have n2 := ABA hd h2 h3
 have n3 := ABA hd (Nat.lt_trans h1 h2) h3
 have e : ∀ x y : Nat, o2L key l (x : Int) (y : Int) = decide (key (gD l y) < key (gD l x)) := λ x y => by
  rw [Bool.eq_iff_iff, BDH, decide_eq_true_eq, Int.toNat_natCast, Int.toNat_natCast]
 have mk : ∀ p x y : Nat, p < l.length -> x < l.length -> y < l.length -> key (gD l x) < key (gD l p) -> key (gD l p) < key (gD l y) -> ∃ q, q < l.length /\ (p : Int) = (q : Int) /\ (∃ x, x < l.length /\ key (gD l x) < key (gD l q)) /\ ∃ y, y < l.length /\ key (gD l q) < key (gD l y) := λ p x y hp hx hy q1 q2 => ⟨p, hp, rfl, ⟨x, hx, q1⟩, y, hy, q2⟩
 unfold mnM mnB o2A o2B
 by_cases q1 : key (gD l b) < key (gD l a)
 ·rw [e a b, decide_eq_true q1]
  simp only [cond_true]
  by_cases q2 : key (gD l c) < key (gD l a)
  ·rw [e a c, decide_eq_true q2]
   simp only [cond_true]
   by_cases q3 : key (gD l c) < key (gD l b)
   ·rw [e b c, decide_eq_true q3]; exact mk b c a (by omega) (by omega) (by omega) q3 q1
   ·rw [e b c, decide_eq_false q3]; exact mk c b a (by omega) (by omega) (by omega) (by omega) q2
  ·rw [e a c, decide_eq_false q2]
   simp only [cond_false]
   rw [e b a, decide_eq_false (by omega)]
   exact mk a b c (by omega) (by omega) (by omega) q1 (by omega)
 ·rw [e a b, decide_eq_false q1]
  simp only [cond_false]
  by_cases q2 : key (gD l c) < key (gD l b)
  ·rw [e b c, decide_eq_true q2]
   simp only [cond_true]
   by_cases q3 : key (gD l c) < key (gD l a)
   ·rw [e a c, decide_eq_true q3]; exact mk a c b (by omega) (by omega) (by omega) q3 (by omega)
   ·rw [e a c, decide_eq_false q3]; exact mk c a b (by omega) (by omega) (by omega) (by omega) q2
  ·rw [e b c, decide_eq_false q2]
   simp only [cond_false]
   rw [e a b, decide_eq_false q1]
   exact mk b a c (by omega) (by omega) (by omega) (by omega) (by omega)
theorem AOO (key : Int -> Int) (l : List Int) (a b : Int) {s n : Int} (h : 0 <= s /\ s <= n) (hn : n <= 100) : 0 <= o2S key l a b s /\ o2S key l a b s <= n + 1 := by
 unfold o2S
 cases o2L key l a b with
 | false => exact ⟨h.1, by show s <= n + 1; omega⟩
 | true => show 0 <= wr (s + 1) /\ wr (s + 1) <= n + 1; rw [show wr (s + 1) = s + 1 from Dh (by omega) (by omega)]; omega
theorem BNF (key : Int -> Int) (l : List Int) (a b c : Int) : 0 <= mnS key l a b c 0 /\ mnS key l a b c 0 <= 3 := AOO key l _ _ (AOO key l _ _ (AOO key l _ _ ⟨Int.le_refl 0, Int.le_refl 0⟩ (by omega)) (by omega)) (by omega)
def iC (key : Int -> Int) (l : List Int) : Nat -> Bool
 | 0 => true
 | n + 1 => iC key l n && !decide (iE (key (gD l (n + 1))) (key (gD l n)) < 0)
theorem ARB {key : Int -> Int} {l : List Int} : ∀ n, iC key l n = true -> ∀ p q, p < q -> q <= n -> key (gD l p) <= key (gD l q)
 | 0, _, p, q, h1, h2 => by omega
 | n + 1, h, p, q, h1, h2 => by
  unfold iC at h
  rw [Bool.and_eq_true, Bool.not_eq_true', decide_eq_false_iff_not, E5] at h
  have ih := ARB n h.1
  rcases Nat.lt_or_ge n q with a | a
  ·obtain rfl : q = n + 1 := by omega
   rcases Nat.lt_or_ge p n with b | b
   ·have := ih p n b (Nat.le_refl _); omega
   ·obtain rfl : p = n := by omega
    omega
  ·exact ih p q h1 a
theorem BOP {key : Int -> Int} {P : Int} {k : Nat} {l m r s : List Int} (h : PtK key P k l m) (hh : (RsM key 0 k m r /\ RsM key (k + 1) l.length r s) ∨ RsM key (k + 1) l.length m r /\ RsM key 0 k r s) : s.Perm l /\ upS key (l.length - 1) s := by
 have hp := h.pos
 have fin : ∀ s : List Int, (∀ x, x < k -> key (gD s x) < key P) -> (∀ x, k < x -> x < l.length -> ¬ key (gD s x) < key P) -> gD s k = P -> (∀ x y, 0 <= x -> x < y -> y < k -> key (gD s x) <= key (gD s y)) -> (∀ x y, k + 1 <= x -> x < y -> y < l.length -> key (gD s x) <= key (gD s y)) -> upS key (l.length - 1) s := λ s a1 a2 a3 a4 a5 p q hpq hq => by
  rcases Nat.lt_trichotomy q k with b | b | b
  ·exact a4 p q (Nat.zero_le _) hpq b
  ·subst b; have := a1 p hpq; rw [a3]; omega
  ·have h8 := a2 q b (by omega)
   rcases Nat.lt_trichotomy p k with c | c | c
   ·have := a1 p c; omega
   ·subst c; rw [a3]; omega
   ·exact a5 p q c hpq (by omega)
 rcases hh with ⟨h1, H⟩ | ⟨h1, H⟩
 ·refine ⟨H.perm.trans (h1.perm.trans h.perm), fin s (λ x hx => ?_) (λ x hx hx2 => ?_) ?_ (λ x y _ q1 q2 => ?_) H.up⟩
  ·rw [H.lo x (by omega)]
   obtain ⟨y, _, y2, e⟩ := h1.of x (Nat.zero_le _) hx
   rw [e]; exact h.lo y y2
  ·obtain ⟨y, y1, y2, e⟩ := H.of x hx hx2
   rw [e, h1.hi y (by omega)]; exact h.hi y y1 y2
  ·rw [H.lo k (by omega), h1.hi k (Nat.le_refl _)]; exact h.at0
  ·rw [H.lo x (by omega), H.lo y (by omega)]; exact h1.up x y (Nat.zero_le _) q1 q2
 ·refine ⟨H.perm.trans (h1.perm.trans h.perm), fin s (λ x hx => ?_) (λ x hx hx2 => ?_) ?_ H.up (λ x y q0 q1 q2 => ?_)⟩
  ·obtain ⟨y, _, y2, e⟩ := H.of x (Nat.zero_le _) hx
   rw [e, h1.lo y (by omega)]; exact h.lo y y2
  ·rw [H.hi x (by omega)]
   obtain ⟨y, y1, y2, e⟩ := h1.of x hx hx2
   rw [e]; exact h.hi y y1 y2
  ·rw [H.hi k (Nat.le_refl _), h1.lo k (by omega)]; exact h.at0
  ·rw [H.hi x (by omega), H.hi y (by omega)]; exact h1.up x y q0 q1 q2
theorem AVD {key : Int -> Int} {l m : List Int} {p k : Nat} (h : PtK key (gD l p) k l m) (hx : ∃ x, x < l.length /\ key (gD l x) < key (gD l p)) (hy : ∃ y, y < l.length /\ key (gD l p) < key (gD l y)) : 0 < k /\ k + 1 < l.length := by
 have hp := h.pos
 have hl := h.perm.length_eq
 obtain ⟨x, x1, x2⟩ := hx
 obtain ⟨y, y1, y2⟩ := hy
 have fx : gD l x ∈ m := h.perm.mem_iff.2 (WR x1)
 have fy : gD l y ∈ m := h.perm.mem_iff.2 (WR y1)
 obtain ⟨i, hi, ei⟩ := YH fx
 obtain ⟨j, hj, ej⟩ := YH fy
 rw [<- ei] at x2
 rw [<- ej] at y2
 constructor
 ·rcases Nat.eq_zero_or_pos k with q | q
  ·subst q
   rcases Nat.eq_zero_or_pos i with r | r
   ·subst r; rw [h.at0] at x2; omega
   ·exact absurd x2 (h.hi i r (by omega))
  ·exact q
 ·rcases Nat.lt_or_ge (k + 1) l.length with q | q
  ·exact q
  ·rcases Nat.lt_or_ge j k with r | r
   ·have := h.lo j r; omega
   ·obtain rfl : j = k := by omega
    rw [h.at0] at y2; omega
end Go.Bal
