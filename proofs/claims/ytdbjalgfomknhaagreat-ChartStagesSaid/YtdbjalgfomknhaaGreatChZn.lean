/- Functions by name. -/
import Derived.Test.YtdbjalgfomknhaaGreatChaN
import Derived.Test.YtdbjalgfomknhaaGreatCom0
set_option linter.unusedVariables false
set_option linter.unusedSimpArgs false
namespace Go.Bal
open Go Go.Sym Go.Proofs
abbrev qS : FuncId := 11
noncomputable abbrev rN : Func := Tryz.f11
theorem ALB : Try.prog.funcs[qS]? = some rN := Tryz.func11
abbrev T8 : FuncId := 7
noncomputable abbrev U5 : Func := Tryz.f7
theorem ASR : Try.prog.funcs[T8]? = some U5 := Tryz.func7
abbrev C1 : FuncId := 18
noncomputable abbrev F5 : Func := Tryz.f18
theorem AMU : Try.prog.funcs[C1]? = some F5 := Tryz.func18
abbrev Y2 : FuncId := 13
noncomputable abbrev R9 : Func := Tryz.f13
theorem ATJ : Try.prog.funcs[Y2]? = some R9 := Tryz.func13
abbrev AEI : FuncId := 15
noncomputable abbrev AGT : Func := Tryz.f15
theorem AVV : Try.prog.funcs[AEI]? = some AGT := Tryz.func15
abbrev Y5 : FuncId := 17
noncomputable abbrev W7 : Func := Tryz.f17
theorem ATE : Try.prog.funcs[Y5]? = some W7 := Tryz.func17
abbrev kZ : FuncId := 26
noncomputable abbrev AAL : Func := Tryz.f26
theorem ATF : Try.prog.funcs[kZ]? = some AAL := Tryz.func26
abbrev tP : FuncId := 32
noncomputable abbrev O6 : Func := Tryz.f32
theorem ATV : Try.prog.funcs[tP]? = some O6 := Tryz.func32
abbrev F2 : FuncId := 34
noncomputable abbrev E6 : Func := Tryz.f34
theorem AMF : Try.prog.funcs[F2]? = some E6 := Tryz.func34
abbrev bH : FuncId := 52
noncomputable abbrev C7 : Func := Tryz.f52
theorem AOR : Try.prog.funcs[bH]? = some C7 := Tryz.func52
abbrev Sm : FuncId := 53
noncomputable abbrev E7 : Func := Tryz.f53
theorem ANE : Try.prog.funcs[Sm]? = some E7 := Tryz.func53
abbrev S9 : FuncId := 54
noncomputable abbrev AOB : Func := Tryz.f54
theorem BGK : Try.prog.funcs[S9]? = some AOB := Tryz.func54
abbrev Vq : FuncId := 55
noncomputable abbrev qG : Func := Tryz.f55
theorem AKD : Try.prog.funcs[Vq]? = some qG := Tryz.func55
abbrev AME : FuncId := 69
noncomputable abbrev ANY : Func := Tryz.f69
theorem BGJ : Try.prog.funcs[AME]? = some ANY := Tryz.func69
abbrev P9 : FuncId := 70
noncomputable abbrev AAY : Func := Tryz.f70
theorem ATB : Try.prog.funcs[P9]? = some AAY := Tryz.func70
abbrev F4 : FuncId := 78
noncomputable abbrev wD : Func := Tryz.f78
theorem AON : Try.prog.funcs[F4]? = some wD := Tryz.func78
abbrev P0 : FuncId := 85
noncomputable abbrev P5 : Func := Tryz.f85
theorem ATA : Try.prog.funcs[P0]? = some P5 := Tryz.func85
abbrev AFR : FuncId := 86
noncomputable abbrev AFY : Func := Tryz.f86
theorem AXX : Try.prog.funcs[AFR]? = some AFY := Tryz.func86
abbrev mG : FuncId := 109
noncomputable abbrev zX : Func := Tryz.f109
theorem ANR : Try.prog.funcs[mG]? = some zX := Tryz.func109
end Go.Bal

namespace Go.Bal
open Go Go.Sym
def Span.has (s : Span) (x : Int) : Prop := s.lo <= x /\ x <= s.hi
def hJ (a b : Span) : Span := ⟨DP a.lo b.lo, KS a.hi b.hi⟩
theorem maxI_le {a b c : Int} : DP a b <= c ↔ a <= c /\ b <= c := by unfold DP; split <;> omega
theorem le_minI {a b c : Int} : c <= KS a b ↔ c <= a /\ c <= b := by unfold KS; split <;> omega
theorem cZ {a b : Span} {x : Int} : (hJ a b).has x ↔ a.has x /\ b.has x := by
 unfold Span.has hJ; rw [maxI_le, le_minI]; omega
theorem BKV (a b : Span) : a.lo <= (hJ a b).lo := (maxI_le.1 (Int.le_refl _)).1
theorem BMY (a b : Span) : (hJ a b).hi <= a.hi := (le_minI.1 (Int.le_refl _)).1
structure Tr (l s : Nat -> Span) (n : Nat) (t : Nat -> Int) : Prop where
 at_ : ∀ i, i <= n -> (l i).has (t i)
 gap : ∀ g, g < n -> (s g).has (t (g + 1) - t g)
structure ArcOk (N s : Nat -> Span) (n : Nat) : Prop where
 ne : ∀ i, i <= n -> (N i).lo <= (N i).hi
 up : ∀ g, g < n -> ∀ x, (N g).has x -> (N (g + 1)).has (DP (N (g + 1)).lo (x + (s g).lo)) /\ (s g).has (DP (N (g + 1)).lo (x + (s g).lo) - x)
 down : ∀ g, g < n -> ∀ y, (N (g + 1)).has y -> ∃ x, (N g).has x /\ (s g).has (y - x)
theorem Tr.ext {l s : Nat -> Span} {n : Nat} {t : Nat -> Int} (h : Tr l s n t) {y : Int} (h1 : (l (n + 1)).has y) (h2 : (s n).has (y - t n)) : Tr l s (n + 1) (λ k => if k = n + 1 then y else t k) := by
 refine ⟨λ i hi => ?_, λ g hg => ?_⟩
 ·by_cases e : i = n + 1
  ·subst e; simpa using h1
  ·simp only [e, if_false]; exact h.at_ i (by omega)
 ·by_cases e : g = n
  ·subst e; simpa using h2
  ·have e1 : ¬ g + 1 = n + 1 := by omega
   have e2 : ¬ g = n + 1 := by omega
   simp only [e1, e2, if_false]; exact h.gap g (by omega)
theorem ArcOk.some {N s : Nat -> Span} {n : Nat} (h : ArcOk N s n) {i : Nat} (hi : i <= n) {x : Int} (hx : (N i).has x) : ∃ t, Tr N s n t /\ t i = x := by
 have low : ∀ i, i <= n -> ∀ x, (N i).has x -> ∃ t, Tr N s i t /\ t i = x := by
  intro i
  induction i with
  | zero =>
   intro _ x hx
   refine ⟨λ _ => x, ⟨λ k hk => ?_, λ g hg => by omega⟩, rfl⟩
   obtain rfl : k = 0 := by omega
   exact hx
  | succ i ih =>
   intro hi x hx
   obtain ⟨y, hy1, hy2⟩ := h.down i (by omega) x hx
   obtain ⟨t, ht, rfl⟩ := ih (by omega) y hy1
   exact ⟨_, ht.ext hx hy2, by simp⟩
 have high : ∀ d, i + d <= n -> ∃ t, Tr N s (i + d) t /\ t i = x := by
  intro d
  induction d with
  | zero => intro _; exact low i hi x hx
  | succ d ih =>
   intro hm
   obtain ⟨t, ht, rfl⟩ := ih (by omega)
   obtain ⟨h1, h2⟩ := h.up (i + d) (by omega) (t (i + d)) (ht.at_ _ (Nat.le_refl _))
   have e : ¬ i = i + d + 1 := by omega
   exact ⟨_, ht.ext h1 h2, by simp only [e, if_false]⟩
 have := high (n - i) (by omega)
 rwa [show i + (n - i) = n by omega] at this
def lowT (N s : Nat -> Span) : Nat -> Int
 | 0 => (N 0).lo
 | g + 1 => DP (N (g + 1)).lo (lowT N s g + (s g).lo)
theorem ArcOk.low {N s : Nat -> Span} {n : Nat} (h : ArcOk N s n) : Tr N s n (lowT N s) := by
 have : ∀ i, i <= n -> (N i).has (lowT N s i) := by
  intro i
  induction i with
  | zero => intro _; exact ⟨Int.le_refl _, h.ne 0 (by omega)⟩
  | succ i ih => intro hi; exact (h.up i (by omega) _ (ih (by omega))).1
 exact ⟨this, λ g hg => (h.up g hg _ (this g (by omega))).2⟩
def fw (l s : Nat -> Span) : Nat -> Span
 | 0 => l 0
 | g + 1 => hJ (l (g + 1)) ⟨(fw l s g).lo + (s g).lo, (fw l s g).hi + (s g).hi⟩
def bk (f s : Nat -> Span) (n : Nat) : Nat -> Span
 | 0 => f n
 | j + 1 => hJ (f (n - (j + 1))) ⟨(bk f s n j).lo - (s (n - (j + 1))).hi, (bk f s n j).hi - (s (n - (j + 1))).lo⟩
def nar (l s : Nat -> Span) (n i : Nat) : Span := bk (fw l s) s n (n - i)
theorem BLT {l s : Nat -> Span} {x : Int} : ∀ {i : Nat}, (fw l s i).has x -> (l i).has x
 | 0, h => h
 | i + 1, h => (cZ.1 h).1
theorem BAJ {f s : Nat -> Span} {n : Nat} {x : Int} : ∀ {j : Nat}, (bk f s n j).has x -> (f (n - j)).has x
 | 0, h => h
 | j + 1, h => (cZ.1 h).1
theorem BFE {l s : Nat -> Span} {n i : Nat} {x : Int} (hi : i <= n) (h : (nar l s n i).has x) : (l i).has x := by
 have := BLT (BAJ h)
 rwa [show n - (n - i) = i by omega] at this
theorem Tr.fw {l s : Nat -> Span} {n : Nat} {t : Nat -> Int} (h : Tr l s n t) : ∀ i, i <= n -> (fw l s i).has (t i)
 | 0, hi => h.at_ 0 hi
 | i + 1, hi => by
  refine cZ.2 ⟨h.at_ _ hi, ?_⟩
  have h1 := h.fw i (by omega)
  have h2 := h.gap i (by omega)
  unfold Span.has at *; simp only; omega
theorem Tr.nar {l s : Nat -> Span} {n : Nat} {t : Nat -> Int} (h : Tr l s n t) : ∀ i, i <= n -> (nar l s n i).has (t i) := by
 have : ∀ j, j <= n -> (bk (Bal.fw l s) s n j).has (t (n - j)) := by
  intro j
  induction j with
  | zero => intro _; exact h.fw n (Nat.le_refl n)
  | succ j ih =>
   intro hj
   refine cZ.2 ⟨h.fw _ (by omega), ?_⟩
   have h1 := ih (by omega)
   have h2 := h.gap (n - (j + 1)) (by omega)
   rw [show n - (j + 1) + 1 = n - j by omega] at h2
   unfold Span.has at *; simp only; omega
 intro i hi
 have h := this (n - i) (by omega)
 rwa [show n - (n - i) = i by omega] at h
theorem BFA {l s : Nat -> Span} {n : Nat} (hs : ∀ g, g < n -> (s g).lo <= (s g).hi) (hne : ∀ i, i <= n -> (nar l s n i).lo <= (nar l s n i).hi) : ArcOk (nar l s n) s n := by
 have eb : ∀ g, g < n -> nar l s n g = hJ (fw l s g) ⟨(nar l s n (g + 1)).lo - (s g).hi, (nar l s n (g + 1)).hi - (s g).lo⟩ := λ g hg => by
  unfold nar
  obtain ⟨j, hj⟩ : ∃ j, n - g = j + 1 := ⟨n - g - 1, by omega⟩
  rw [hj, show n - (g + 1) = j by omega]
  show hJ (fw l s (n - (j + 1))) _ = _
  rw [show n - (j + 1) = g by omega]
 refine ⟨hne, λ g hg x hx => ?_, λ g hg y hy => ?_⟩
 ·have h1 := hne (g + 1) (by omega)
  have h2 := hs g hg
  rw [eb g hg] at hx
  have h3 := (cZ.1 hx).2
  generalize nar l s n (g + 1) = N at *
  unfold Span.has DP at *; simp only at h3; split <;> omega
 ·have h1 := hs g hg
  have h2 := hne g (by omega)
  have e := eb g hg
  have h4 : (fw l s (g + 1)).has y := by
   have := BAJ (f := fw l s) (s := s) (n := n) hy
   rwa [show n - (n - (g + 1)) = g + 1 by omega] at this
  have h5 := (cZ.1 h4).2
  have h6 : (fw l s g).lo <= (fw l s g).hi := by
   rw [e] at h2
   have := BKV (fw l s g) ⟨(nar l s n (g + 1)).lo - (s g).hi, (nar l s n (g + 1)).hi - (s g).lo⟩
   have := BMY (fw l s g) ⟨(nar l s n (g + 1)).lo - (s g).hi, (nar l s n (g + 1)).hi - (s g).lo⟩
   omega
  refine ⟨DP (fw l s g).lo (y - (s g).hi), ?_, ?_⟩
  ·rw [e]; refine cZ.2 ?_
   generalize nar l s n (g + 1) = N at *
   generalize fw l s g = F at *
   unfold Span.has DP at *; simp only at h5 ⊢; split <;> omega
  ·generalize fw l s g = F at *
   unfold Span.has DP at *; simp only at h5 ⊢; split <;> omega
theorem AHN {l s : Nat -> Span} {n : Nat} (hs : ∀ g, g < n -> (s g).lo <= (s g).hi) (hne : ∀ i, i <= n -> (nar l s n i).lo <= (nar l s n i).hi) {i : Nat} (hi : i <= n) {x : Int} : (nar l s n i).has x ↔ ∃ t, Tr l s n t /\ t i = x := by
 constructor
 ·intro hx
  obtain ⟨t, ht, e⟩ := (BFA hs hne).some hi hx
  exact ⟨t, ⟨λ k hk => BFE hk (ht.at_ k hk), ht.gap⟩, e⟩
 ·rintro ⟨t, ht, rfl⟩; exact ht.nar i hi
theorem Z0 {l s : Nat -> Span} {n : Nat} (hs : ∀ g, g < n -> (s g).lo <= (s g).hi) : (∀ i, i <= n -> (nar l s n i).lo <= (nar l s n i).hi) ↔ ∃ t, Tr l s n t :=
 ⟨λ h => let ⟨t, ht, _⟩ := (AHN hs h (Nat.zero_le n)).1 ⟨Int.le_refl _, h 0 (Nat.zero_le n)⟩; ⟨t, ht⟩, λ ⟨t, ht⟩ i hi => Int.le_trans (ht.nar i hi).1 (ht.nar i hi).2⟩
theorem BDJ {N s : Nat -> Span} {n : Nat} (hs : ∀ g, g < n -> (s g).lo <= (s g).hi) (hne : ∀ i, i <= n -> (N i).lo <= (N i).hi)
  (h1 : ∀ g, g < n -> (N (g + 1)).lo - (s g).hi <= (N g).lo) (h2 : ∀ g, g < n -> (N g).hi <= (N (g + 1)).hi - (s g).lo) (h3 : ∀ g, g < n -> (N g).lo + (s g).lo <= (N (g + 1)).lo) (h4 : ∀ g, g < n -> (N (g + 1)).hi <= (N g).hi + (s g).hi) : ArcOk N s n := by
 refine ⟨hne, λ g hg x hx => ?_, λ g hg y hy => ⟨DP (N g).lo (y - (s g).hi), ?_⟩⟩
 ·have a1 := h1 g hg; have a2 := h2 g hg; have a3 := h3 g hg; have a4 := h4 g hg; have a5 := hs g hg; have a6 := hne g (by omega); have a7 := hne (g + 1) (by omega)
  unfold Span.has DP at *; split <;> omega
 ·have a1 := h1 g hg; have a2 := h2 g hg; have a3 := h3 g hg; have a4 := h4 g hg; have a5 := hs g hg; have a6 := hne g (by omega); have a7 := hne (g + 1) (by omega)
  unfold Span.has DP at *; split <;> omega
theorem AMX {N l s : Nat -> Span} {n : Nat} (hs : ∀ g, g < n -> (s g).lo <= (s g).hi) (hN : ArcOk N s n) (hsub : ∀ i, i <= n -> ∀ x, (N i).has x -> (l i).has x) (hall : ∀ t, Tr l s n t -> ∀ i, i <= n -> (N i).has (t i)) : ∀ i, i <= n -> N i = nar l s n i := by
 have tr : ∀ t, Tr N s n t -> Tr l s n t := λ t ht => ⟨λ i hi => hsub i hi _ (ht.at_ i hi), ht.gap⟩
 have hne : ∀ i, i <= n -> (nar l s n i).lo <= (nar l s n i).hi := (Z0 hs).2 ⟨_, tr _ hN.low⟩
 have iff : ∀ i, i <= n -> ∀ x, (N i).has x ↔ (nar l s n i).has x := λ i hi x => by
  constructor
  ·intro hx
   obtain ⟨t, ht, rfl⟩ := hN.some hi hx
   exact (tr t ht).nar i hi
  ·intro hx
   obtain ⟨t, ht, rfl⟩ := (AHN hs hne hi).1 hx
   exact hall t ht i hi
 intro i hi
 have h1 := iff i hi
 have a := hN.ne i hi
 have b := hne i hi
 generalize nar l s n i = M at *
 generalize N i = K at *
 have e1 := (h1 K.lo).1 ⟨Int.le_refl _, a⟩
 have e2 := (h1 K.hi).1 ⟨a, Int.le_refl _⟩
 have e3 := (h1 M.lo).2 ⟨Int.le_refl _, b⟩
 have e4 := (h1 M.hi).2 ⟨b, Int.le_refl _⟩
 obtain ⟨k1, k2⟩ := K
 obtain ⟨m1, m2⟩ := M
 unfold Span.has at *
 simp only at e1 e2 e3 e4
 congr 1 <;> omega
end Go.Bal
