/- Times along a chart: spans, and what can pass between two of them that follow one another. -/
import Derived.Test.YtdbjalgfomknhaaCom0
set_option linter.unusedVariables false
set_option linter.unusedSimpArgs false
namespace Go.Bal
open Go Go.Sym
def Span.has (s : Span) (x : Int) : Prop := s.lo <= x /\ x <= s.hi
def fG (a b : Span) : Span := ⟨DJ a.lo b.lo, JL a.hi b.hi⟩
theorem AOM {a b c : Int} : DJ a b <= c ↔ a <= c /\ b <= c := by unfold DJ; split <;> omega
theorem BPL {a b c : Int} : c <= JL a b ↔ c <= a /\ c <= b := by unfold JL; split <;> omega
theorem NY {a b : Span} {x : Int} : (fG a b).has x ↔ a.has x /\ b.has x := by
 unfold Span.has fG; rw [AOM, BPL]; omega
theorem CXK (a b : Span) : a.lo <= (fG a b).lo := (AOM.1 (Int.le_refl _)).1
theorem CWU (a b : Span) : (fG a b).hi <= a.hi := (BPL.1 (Int.le_refl _)).1
structure Tr (l s : Nat -> Span) (n : Nat) (t : Nat -> Int) : Prop where
 at_ : ∀ i, i <= n -> (l i).has (t i)
 gap : ∀ g, g < n -> (s g).has (t (g + 1) - t g)
structure ArcOk (N s : Nat -> Span) (n : Nat) : Prop where
 ne : ∀ i, i <= n -> (N i).lo <= (N i).hi
 up : ∀ g, g < n -> ∀ x, (N g).has x -> (N (g + 1)).has (DJ (N (g + 1)).lo (x + (s g).lo)) /\ (s g).has (DJ (N (g + 1)).lo (x + (s g).lo) - x)
 down : ∀ g, g < n -> ∀ y, (N (g + 1)).has y -> ∃ x, (N g).has x /\ (s g).has (y - x)
theorem Tr.ext {l s : Nat -> Span} {n : Nat} {t : Nat -> Int} (h : Tr l s n t) {y : Int} (h1 : (l (n + 1)).has y) (h2 : (s n).has (y - t n)) : Tr l s (n + 1) (λ k => if k = n + 1 then y else t k) := by
 refine ⟨λ i hi => ?_, λ g hg => ?_⟩
 ·by_cases e : i = n + 1
  ·subst e; simpa using h1
  ·simp only [e, if_false]; exact h.at_ i (by omega)
 ·by_cases e : g = n
  ·subst e; simpa using h2
  ·have e1 : ¬ g + 1 = n + 1 := by omega
   have e2 : ¬ g = n + 1 := by omega
   simp only [e1, e2, if_false]; exact h.gap g (by omega)
theorem ArcOk.some {N s : Nat -> Span} {n : Nat} (h : ArcOk N s n) {i : Nat} (hi : i <= n) {x : Int} (hx : (N i).has x) : ∃ t, Tr N s n t /\ t i = x := by
 have low : ∀ i, i <= n -> ∀ x, (N i).has x -> ∃ t, Tr N s i t /\ t i = x := by
  intro i
  induction i with
  | zero =>
   intro _ x hx
   refine ⟨λ _ => x, ⟨λ k hk => ?_, λ g hg => by omega⟩, rfl⟩
   obtain rfl : k = 0 := by omega
   exact hx
  | succ i ih =>
   intro hi x hx
   obtain ⟨y, hy1, hy2⟩ := h.down i (by omega) x hx
   obtain ⟨t, ht, rfl⟩ := ih (by omega) y hy1
   exact ⟨_, ht.ext hx hy2, by simp⟩
 have high : ∀ d, i + d <= n -> ∃ t, Tr N s (i + d) t /\ t i = x := by
  intro d
  induction d with
  | zero => intro _; exact low i hi x hx
  | succ d ih =>
   intro hm
   obtain ⟨t, ht, rfl⟩ := ih (by omega)
   obtain ⟨h1, h2⟩ := h.up (i + d) (by omega) (t (i + d)) (ht.at_ _ (Nat.le_refl _))
   have e : ¬ i = i + d + 1 := by omega
   exact ⟨_, ht.ext h1 h2, by simp only [e, if_false]⟩
 have := high (n - i) (by omega)
 rwa [show i + (n - i) = n by omega] at this
def lowT (N s : Nat -> Span) : Nat -> Int
 | 0 => (N 0).lo
 | g + 1 => DJ (N (g + 1)).lo (lowT N s g + (s g).lo)
theorem ArcOk.low {N s : Nat -> Span} {n : Nat} (h : ArcOk N s n) : Tr N s n (lowT N s) := by
 have : ∀ i, i <= n -> (N i).has (lowT N s i) := by
  intro i
  induction i with
  | zero => intro _; exact ⟨Int.le_refl _, h.ne 0 (by omega)⟩
  | succ i ih => intro hi; exact (h.up i (by omega) _ (ih (by omega))).1
 exact ⟨this, λ g hg => (h.up g hg _ (this g (by omega))).2⟩
def fw (l s : Nat -> Span) : Nat -> Span
 | 0 => l 0
 | g + 1 => fG (l (g + 1)) ⟨(fw l s g).lo + (s g).lo, (fw l s g).hi + (s g).hi⟩
def bk (f s : Nat -> Span) (n : Nat) : Nat -> Span
 | 0 => f n
 | j + 1 => fG (f (n - (j + 1))) ⟨(bk f s n j).lo - (s (n - (j + 1))).hi, (bk f s n j).hi - (s (n - (j + 1))).lo⟩
def nar (l s : Nat -> Span) (n i : Nat) : Span := bk (fw l s) s n (n - i)
theorem CWJ {l s : Nat -> Span} {x : Int} : ∀ {i : Nat}, (fw l s i).has x -> (l i).has x
 | 0, h => h
 | i + 1, h => (NY.1 h).1
theorem CHJ {f s : Nat -> Span} {n : Nat} {x : Int} : ∀ {j : Nat}, (bk f s n j).has x -> (f (n - j)).has x
 | 0, h => h
 | j + 1, h => (NY.1 h).1
theorem CQY {l s : Nat -> Span} {n i : Nat} {x : Int} (hi : i <= n) (h : (nar l s n i).has x) : (l i).has x := by
 have := CWJ (CHJ h)
 rwa [show n - (n - i) = i by omega] at this
theorem Tr.fw {l s : Nat -> Span} {n : Nat} {t : Nat -> Int} (h : Tr l s n t) : ∀ i, i <= n -> (fw l s i).has (t i)
 | 0, hi => h.at_ 0 hi
 | i + 1, hi => by
  refine NY.2 ⟨h.at_ _ hi, ?_⟩
  have h1 := h.fw i (by omega)
  have h2 := h.gap i (by omega)
  unfold Span.has at *; simp only; omega
theorem Tr.nar {l s : Nat -> Span} {n : Nat} {t : Nat -> Int} (h : Tr l s n t) : ∀ i, i <= n -> (nar l s n i).has (t i) := by
 have : ∀ j, j <= n -> (bk (Bal.fw l s) s n j).has (t (n - j)) := by
  intro j
  induction j with
  | zero => intro _; exact h.fw n (Nat.le_refl n)
  | succ j ih =>
   intro hj
   refine NY.2 ⟨h.fw _ (by omega), ?_⟩
   have h1 := ih (by omega)
   have h2 := h.gap (n - (j + 1)) (by omega)
   rw [show n - (j + 1) + 1 = n - j by omega] at h2
   unfold Span.has at *; simp only; omega
 intro i hi
 have h := this (n - i) (by omega)
 rwa [show n - (n - i) = i by omega] at h
theorem COQ {l s : Nat -> Span} {n : Nat} (hs : ∀ g, g < n -> (s g).lo <= (s g).hi) (hne : ∀ i, i <= n -> (nar l s n i).lo <= (nar l s n i).hi) : ArcOk (nar l s n) s n := by
 have eb : ∀ g, g < n -> nar l s n g = fG (fw l s g) ⟨(nar l s n (g + 1)).lo - (s g).hi, (nar l s n (g + 1)).hi - (s g).lo⟩ := λ g hg => by
  unfold nar
  obtain ⟨j, hj⟩ : ∃ j, n - g = j + 1 := ⟨n - g - 1, by omega⟩
  rw [hj, show n - (g + 1) = j by omega]
  show fG (fw l s (n - (j + 1))) _ = _
  rw [show n - (j + 1) = g by omega]
 refine ⟨hne, λ g hg x hx => ?_, λ g hg y hy => ?_⟩
 ·have h1 := hne (g + 1) (by omega)
  have h2 := hs g hg
  rw [eb g hg] at hx
  have h3 := (NY.1 hx).2
  generalize nar l s n (g + 1) = N at *
  unfold Span.has DJ at *; simp only at h3; split <;> omega
 ·have h1 := hs g hg
  have h2 := hne g (by omega)
  have e := eb g hg
  have h4 : (fw l s (g + 1)).has y := by
   have := CHJ (f := fw l s) (s := s) (n := n) hy
   rwa [show n - (n - (g + 1)) = g + 1 by omega] at this
  have h5 := (NY.1 h4).2
  have h6 : (fw l s g).lo <= (fw l s g).hi := by
   rw [e] at h2
   have := CXK (fw l s g) ⟨(nar l s n (g + 1)).lo - (s g).hi, (nar l s n (g + 1)).hi - (s g).lo⟩
   have := CWU (fw l s g) ⟨(nar l s n (g + 1)).lo - (s g).hi, (nar l s n (g + 1)).hi - (s g).lo⟩
   omega
  refine ⟨DJ (fw l s g).lo (y - (s g).hi), ?_, ?_⟩
  ·rw [e]; refine NY.2 ?_
   generalize nar l s n (g + 1) = N at *
   generalize fw l s g = F at *
   unfold Span.has DJ at *; simp only at h5 ⊢; split <;> omega
  ·generalize fw l s g = F at *
   unfold Span.has DJ at *; simp only at h5 ⊢; split <;> omega
theorem CDK {l s : Nat -> Span} {n : Nat} (hs : ∀ g, g < n -> (s g).lo <= (s g).hi) (hne : ∀ i, i <= n -> (nar l s n i).lo <= (nar l s n i).hi) {i : Nat} (hi : i <= n) {x : Int} : (nar l s n i).has x ↔ ∃ t, Tr l s n t /\ t i = x := by
 constructor
 ·intro hx
  obtain ⟨t, ht, e⟩ := (COQ hs hne).some hi hx
  exact ⟨t, ⟨λ k hk => CQY hk (ht.at_ k hk), ht.gap⟩, e⟩
 ·rintro ⟨t, ht, rfl⟩; exact ht.nar i hi
theorem BYR {l s : Nat -> Span} {n : Nat} (hs : ∀ g, g < n -> (s g).lo <= (s g).hi) : (∀ i, i <= n -> (nar l s n i).lo <= (nar l s n i).hi) ↔ ∃ t, Tr l s n t :=
 ⟨λ h => let ⟨t, ht, _⟩ := (CDK hs h (Nat.zero_le n)).1 ⟨Int.le_refl _, h 0 (Nat.zero_le n)⟩; ⟨t, ht⟩, λ ⟨t, ht⟩ i hi => Int.le_trans (ht.nar i hi).1 (ht.nar i hi).2⟩
end Go.Bal
