/- Functions by name. -/
import Derived.Test.YtdbjalgfomknhaaGreatCom0
set_option linter.unusedVariables false
set_option linter.unusedSimpArgs false
namespace Go.Bal
open Go Go.Sym Go.Proofs
abbrev tA : FuncId := 11
noncomputable abbrev uT : Func := Tryz.f11
theorem AQS : Try.prog.funcs[tA]? = some uT := Tryz.func11
abbrev AAV : FuncId := 7
noncomputable abbrev AGF : Func := Tryz.f7
theorem BCI : Try.prog.funcs[AAV]? = some AGF := Tryz.func7
abbrev P4 : FuncId := 18
noncomputable abbrev E5 : Func := Tryz.f18
theorem ATN : Try.prog.funcs[P4]? = some E5 := Tryz.func18
abbrev uI : FuncId := 28
noncomputable abbrev uW : Func := Tryz.f28
theorem ATK : Try.prog.funcs[uI]? = some uW := Tryz.func28
abbrev ANA : FuncId := 22
noncomputable abbrev ANV : Func := Tryz.f22
theorem BKN : Try.prog.funcs[ANA]? = some ANV := Tryz.func22
abbrev D2 : FuncId := 24
noncomputable abbrev zW : Func := Tryz.f24
theorem AWO : Try.prog.funcs[D2]? = some zW := Tryz.func24
abbrev xC : FuncId := 26
noncomputable abbrev ABD : Func := Tryz.f26
theorem BCE : Try.prog.funcs[xC]? = some ABD := Tryz.func26
abbrev O8 : FuncId := 27
noncomputable abbrev D1 : Func := Tryz.f27
theorem AUY : Try.prog.funcs[O8]? = some D1 := Tryz.func27
abbrev Ph : FuncId := 32
noncomputable abbrev AFX : Func := Tryz.f32
theorem BCC : Try.prog.funcs[Ph]? = some AFX := Tryz.func32
abbrev L0 : FuncId := 34
noncomputable abbrev H5 : Func := Tryz.f34
theorem AUE : Try.prog.funcs[L0]? = some H5 := Tryz.func34
abbrev I9 : FuncId := 53
noncomputable abbrev G1 : Func := Tryz.f53
theorem AWB : Try.prog.funcs[I9]? = some G1 := Tryz.func53
abbrev E0 : FuncId := 54
noncomputable abbrev AVD : Func := Tryz.f54
theorem BOR : Try.prog.funcs[E0]? = some AVD := Tryz.func54
abbrev tR : FuncId := 55
noncomputable abbrev uY : Func := Tryz.f55
theorem ASE : Try.prog.funcs[tR]? = some uY := Tryz.func55
abbrev bQ : FuncId := 65
noncomputable abbrev D6 : Func := Tryz.f65
theorem AWL : Try.prog.funcs[bQ]? = some D6 := Tryz.func65
abbrev nM : FuncId := 66
noncomputable abbrev AMW : Func := Tryz.f66
theorem BEW : Try.prog.funcs[nM]? = some AMW := Tryz.func66
abbrev AFJ : FuncId := 68
noncomputable abbrev AHH : Func := Tryz.f68
theorem BCF : Try.prog.funcs[AFJ]? = some AHH := Tryz.func68
abbrev AWC : FuncId := 69
noncomputable abbrev AUT : Func := Tryz.f69
theorem BNG : Try.prog.funcs[AWC]? = some AUT := Tryz.func69
abbrev AFH : FuncId := 70
noncomputable abbrev AGQ : Func := Tryz.f70
theorem BBI : Try.prog.funcs[AFH]? = some AGQ := Tryz.func70
abbrev A8 : FuncId := 78
noncomputable abbrev A7 : Func := Tryz.f78
theorem AXA : Try.prog.funcs[A8]? = some A7 := Tryz.func78
abbrev AHP : FuncId := 85
noncomputable abbrev AFG : Func := Tryz.f85
theorem BCK : Try.prog.funcs[AHP]? = some AFG := Tryz.func85
abbrev Z3 : FuncId := 86
noncomputable abbrev AMZ : Func := Tryz.f86
theorem BKB : Try.prog.funcs[Z3]? = some AMZ := Tryz.func86
abbrev nS : FuncId := 109
noncomputable abbrev I0 : Func := Tryz.f109
theorem AUO : Try.prog.funcs[nS]? = some I0 := Tryz.func109
end Go.Bal

namespace Go.Bal
open Go Go.Sym
def Span.has (s : Span) (x : Int) : Prop := s.lo <= x /\ x <= s.hi
def iV (a b : Span) : Span := ⟨MY a.lo b.lo, XC a.hi b.hi⟩
theorem pN {a b c : Int} : MY a b <= c ↔ a <= c /\ b <= c := by unfold MY; split <;> omega
theorem nI {a b c : Int} : c <= XC a b ↔ c <= a /\ c <= b := by unfold XC; split <;> omega
theorem Ss {a b : Span} {x : Int} : (iV a b).has x ↔ a.has x /\ b.has x := by
 unfold Span.has iV; rw [pN, nI]; omega
theorem BUS (a b : Span) : a.lo <= (iV a b).lo := (pN.1 (Int.le_refl _)).1
theorem BWZ (a b : Span) : (iV a b).hi <= a.hi := (nI.1 (Int.le_refl _)).1
structure Tr (l s : Nat -> Span) (n : Nat) (t : Nat -> Int) : Prop where
 at_ : ∀ i, i <= n -> (l i).has (t i)
 gap : ∀ g, g < n -> (s g).has (t (g + 1) - t g)
structure ArcOk (N s : Nat -> Span) (n : Nat) : Prop where
 ne : ∀ i, i <= n -> (N i).lo <= (N i).hi
 up : ∀ g, g < n -> ∀ x, (N g).has x -> (N (g + 1)).has (MY (N (g + 1)).lo (x + (s g).lo)) /\ (s g).has (MY (N (g + 1)).lo (x + (s g).lo) - x)
 down : ∀ g, g < n -> ∀ y, (N (g + 1)).has y -> ∃ x, (N g).has x /\ (s g).has (y - x)
theorem Tr.ext {l s : Nat -> Span} {n : Nat} {t : Nat -> Int} (h : Tr l s n t) {y : Int} (h1 : (l (n + 1)).has y) (h2 : (s n).has (y - t n)) : Tr l s (n + 1) (λ k => if k = n + 1 then y else t k) := by
 refine ⟨λ i hi => ?_, λ g hg => ?_⟩
 ·by_cases e : i = n + 1
  ·subst e; simpa using h1
  ·simp only [e, if_false]; exact h.at_ i (by omega)
 ·by_cases e : g = n
  ·subst e; simpa using h2
  ·have e1 : ¬ g + 1 = n + 1 := by omega
   have e2 : ¬ g = n + 1 := by omega
   simp only [e1, e2, if_false]; exact h.gap g (by omega)
theorem ArcOk.some {N s : Nat -> Span} {n : Nat} (h : ArcOk N s n) {i : Nat} (hi : i <= n) {x : Int} (hx : (N i).has x) : ∃ t, Tr N s n t /\ t i = x := by
 have low : ∀ i, i <= n -> ∀ x, (N i).has x -> ∃ t, Tr N s i t /\ t i = x := by
  intro i
  induction i with
  | zero =>
   intro _ x hx
   refine ⟨λ _ => x, ⟨λ k hk => ?_, λ g hg => by omega⟩, rfl⟩
   obtain rfl : k = 0 := by omega
   exact hx
  | succ i ih =>
   intro hi x hx
   obtain ⟨y, hy1, hy2⟩ := h.down i (by omega) x hx
   obtain ⟨t, ht, rfl⟩ := ih (by omega) y hy1
   exact ⟨_, ht.ext hx hy2, by simp⟩
 have high : ∀ d, i + d <= n -> ∃ t, Tr N s (i + d) t /\ t i = x := by
  intro d
  induction d with
  | zero => intro _; exact low i hi x hx
  | succ d ih =>
   intro hm
   obtain ⟨t, ht, rfl⟩ := ih (by omega)
   obtain ⟨h1, h2⟩ := h.up (i + d) (by omega) (t (i + d)) (ht.at_ _ (Nat.le_refl _))
   have e : ¬ i = i + d + 1 := by omega
   exact ⟨_, ht.ext h1 h2, by simp only [e, if_false]⟩
 have := high (n - i) (by omega)
 rwa [show i + (n - i) = n by omega] at this
def lowT (N s : Nat -> Span) : Nat -> Int
 | 0 => (N 0).lo
 | g + 1 => MY (N (g + 1)).lo (lowT N s g + (s g).lo)
theorem ArcOk.low {N s : Nat -> Span} {n : Nat} (h : ArcOk N s n) : Tr N s n (lowT N s) := by
 have : ∀ i, i <= n -> (N i).has (lowT N s i) := by
  intro i
  induction i with
  | zero => intro _; exact ⟨Int.le_refl _, h.ne 0 (by omega)⟩
  | succ i ih => intro hi; exact (h.up i (by omega) _ (ih (by omega))).1
 exact ⟨this, λ g hg => (h.up g hg _ (this g (by omega))).2⟩
def fw (l s : Nat -> Span) : Nat -> Span
 | 0 => l 0
 | g + 1 => iV (l (g + 1)) ⟨(fw l s g).lo + (s g).lo, (fw l s g).hi + (s g).hi⟩
def bk (f s : Nat -> Span) (n : Nat) : Nat -> Span
 | 0 => f n
 | j + 1 => iV (f (n - (j + 1))) ⟨(bk f s n j).lo - (s (n - (j + 1))).hi, (bk f s n j).hi - (s (n - (j + 1))).lo⟩
def nar (l s : Nat -> Span) (n i : Nat) : Span := bk (fw l s) s n (n - i)
theorem BYC {l s : Nat -> Span} {x : Int} : ∀ {i : Nat}, (fw l s i).has x -> (l i).has x
 | 0, h => h
 | i + 1, h => (Ss.1 h).1
theorem BKK {f s : Nat -> Span} {n : Nat} {x : Int} : ∀ {j : Nat}, (bk f s n j).has x -> (f (n - j)).has x
 | 0, h => h
 | j + 1, h => (Ss.1 h).1
theorem BPZ {l s : Nat -> Span} {n i : Nat} {x : Int} (hi : i <= n) (h : (nar l s n i).has x) : (l i).has x := by
 have := BYC (BKK h)
 rwa [show n - (n - i) = i by omega] at this
theorem Tr.fw {l s : Nat -> Span} {n : Nat} {t : Nat -> Int} (h : Tr l s n t) : ∀ i, i <= n -> (fw l s i).has (t i)
 | 0, hi => h.at_ 0 hi
 | i + 1, hi => by
  refine Ss.2 ⟨h.at_ _ hi, ?_⟩
  have h1 := h.fw i (by omega)
  have h2 := h.gap i (by omega)
  unfold Span.has at *; simp only; omega
theorem Tr.nar {l s : Nat -> Span} {n : Nat} {t : Nat -> Int} (h : Tr l s n t) : ∀ i, i <= n -> (nar l s n i).has (t i) := by
 have : ∀ j, j <= n -> (bk (Bal.fw l s) s n j).has (t (n - j)) := by
  intro j
  induction j with
  | zero => intro _; exact h.fw n (Nat.le_refl n)
  | succ j ih =>
   intro hj
   refine Ss.2 ⟨h.fw _ (by omega), ?_⟩
   have h1 := ih (by omega)
   have h2 := h.gap (n - (j + 1)) (by omega)
   rw [show n - (j + 1) + 1 = n - j by omega] at h2
   unfold Span.has at *; simp only; omega
 intro i hi
 have h := this (n - i) (by omega)
 rwa [show n - (n - i) = i by omega] at h
theorem BPM {l s : Nat -> Span} {n : Nat} (hs : ∀ g, g < n -> (s g).lo <= (s g).hi) (hne : ∀ i, i <= n -> (nar l s n i).lo <= (nar l s n i).hi) : ArcOk (nar l s n) s n := by
 have eb : ∀ g, g < n -> nar l s n g = iV (fw l s g) ⟨(nar l s n (g + 1)).lo - (s g).hi, (nar l s n (g + 1)).hi - (s g).lo⟩ := λ g hg => by
  unfold nar
  obtain ⟨j, hj⟩ : ∃ j, n - g = j + 1 := ⟨n - g - 1, by omega⟩
  rw [hj, show n - (g + 1) = j by omega]
  show iV (fw l s (n - (j + 1))) _ = _
  rw [show n - (j + 1) = g by omega]
 refine ⟨hne, λ g hg x hx => ?_, λ g hg y hy => ?_⟩
 ·have h1 := hne (g + 1) (by omega)
  have h2 := hs g hg
  rw [eb g hg] at hx
  have h3 := (Ss.1 hx).2
  generalize nar l s n (g + 1) = N at *
  unfold Span.has MY at *; simp only at h3; split <;> omega
 ·have h1 := hs g hg
  have h2 := hne g (by omega)
  have e := eb g hg
  have h4 : (fw l s (g + 1)).has y := by
   have := BKK (f := fw l s) (s := s) (n := n) hy
   rwa [show n - (n - (g + 1)) = g + 1 by omega] at this
  have h5 := (Ss.1 h4).2
  have h6 : (fw l s g).lo <= (fw l s g).hi := by
   rw [e] at h2
   have := BUS (fw l s g) ⟨(nar l s n (g + 1)).lo - (s g).hi, (nar l s n (g + 1)).hi - (s g).lo⟩
   have := BWZ (fw l s g) ⟨(nar l s n (g + 1)).lo - (s g).hi, (nar l s n (g + 1)).hi - (s g).lo⟩
   omega
  refine ⟨MY (fw l s g).lo (y - (s g).hi), ?_, ?_⟩
  ·rw [e]; refine Ss.2 ?_
   generalize nar l s n (g + 1) = N at *
   generalize fw l s g = F at *
   unfold Span.has MY at *; simp only at h5 ⊢; split <;> omega
  ·generalize fw l s g = F at *
   unfold Span.has MY at *; simp only at h5 ⊢; split <;> omega
theorem BAI {l s : Nat -> Span} {n : Nat} (hs : ∀ g, g < n -> (s g).lo <= (s g).hi) (hne : ∀ i, i <= n -> (nar l s n i).lo <= (nar l s n i).hi) {i : Nat} (hi : i <= n) {x : Int} : (nar l s n i).has x ↔ ∃ t, Tr l s n t /\ t i = x := by
 constructor
 ·intro hx
  obtain ⟨t, ht, e⟩ := (BPM hs hne).some hi hx
  exact ⟨t, ⟨λ k hk => BPZ hk (ht.at_ k hk), ht.gap⟩, e⟩
 ·rintro ⟨t, ht, rfl⟩; exact ht.nar i hi
theorem ARY {l s : Nat -> Span} {n : Nat} (hs : ∀ g, g < n -> (s g).lo <= (s g).hi) : (∀ i, i <= n -> (nar l s n i).lo <= (nar l s n i).hi) ↔ ∃ t, Tr l s n t :=
 ⟨λ h => let ⟨t, ht, _⟩ := (BAI hs h (Nat.zero_le n)).1 ⟨Int.le_refl _, h 0 (Nat.zero_le n)⟩; ⟨t, ht⟩, λ ⟨t, ht⟩ i hi => Int.le_trans (ht.nar i hi).1 (ht.nar i hi).2⟩
theorem BMA {N s : Nat -> Span} {n : Nat} (hs : ∀ g, g < n -> (s g).lo <= (s g).hi) (hne : ∀ i, i <= n -> (N i).lo <= (N i).hi)
  (h1 : ∀ g, g < n -> (N (g + 1)).lo - (s g).hi <= (N g).lo) (h2 : ∀ g, g < n -> (N g).hi <= (N (g + 1)).hi - (s g).lo) (h3 : ∀ g, g < n -> (N g).lo + (s g).lo <= (N (g + 1)).lo) (h4 : ∀ g, g < n -> (N (g + 1)).hi <= (N g).hi + (s g).hi) : ArcOk N s n := by
 refine ⟨hne, λ g hg x hx => ?_, λ g hg y hy => ⟨MY (N g).lo (y - (s g).hi), ?_⟩⟩
 ·have a1 := h1 g hg; have a2 := h2 g hg; have a3 := h3 g hg; have a4 := h4 g hg; have a5 := hs g hg; have a6 := hne g (by omega); have a7 := hne (g + 1) (by omega)
  unfold Span.has MY at *; split <;> omega
 ·have a1 := h1 g hg; have a2 := h2 g hg; have a3 := h3 g hg; have a4 := h4 g hg; have a5 := hs g hg; have a6 := hne g (by omega); have a7 := hne (g + 1) (by omega)
  unfold Span.has MY at *; split <;> omega
theorem AWW {N l s : Nat -> Span} {n : Nat} (hs : ∀ g, g < n -> (s g).lo <= (s g).hi) (hN : ArcOk N s n) (hsub : ∀ i, i <= n -> ∀ x, (N i).has x -> (l i).has x) (hall : ∀ t, Tr l s n t -> ∀ i, i <= n -> (N i).has (t i)) : ∀ i, i <= n -> N i = nar l s n i := by
 have tr : ∀ t, Tr N s n t -> Tr l s n t := λ t ht => ⟨λ i hi => hsub i hi _ (ht.at_ i hi), ht.gap⟩
 have hne : ∀ i, i <= n -> (nar l s n i).lo <= (nar l s n i).hi := (ARY hs).2 ⟨_, tr _ hN.low⟩
 have iff : ∀ i, i <= n -> ∀ x, (N i).has x ↔ (nar l s n i).has x := λ i hi x => by
  constructor
  ·intro hx
   obtain ⟨t, ht, rfl⟩ := hN.some hi hx
   exact (tr t ht).nar i hi
  ·intro hx
   obtain ⟨t, ht, rfl⟩ := (BAI hs hne hi).1 hx
   exact hall t ht i hi
 intro i hi
 have h1 := iff i hi
 have a := hN.ne i hi
 have b := hne i hi
 generalize nar l s n i = M at *
 generalize N i = K at *
 have e1 := (h1 K.lo).1 ⟨Int.le_refl _, a⟩
 have e2 := (h1 K.hi).1 ⟨a, Int.le_refl _⟩
 have e3 := (h1 M.lo).2 ⟨Int.le_refl _, b⟩
 have e4 := (h1 M.hi).2 ⟨b, Int.le_refl _⟩
 obtain ⟨k1, k2⟩ := K
 obtain ⟨m1, m2⟩ := M
 unfold Span.has at *
 simp only at e1 e2 e3 e4
 congr 1 <;> omega
end Go.Bal
