/- Times along a chart: spans, and what can pass between two of them that follow one another. -/
import Derived.Test.YtdbjalgfomknhaaCom0
import Derived.Test.YtdbjalgfomknhaaChaN
set_option linter.unusedVariables false
set_option linter.unusedSimpArgs false
namespace Go.Bal
open Go Go.Sym
def Span.has (s : Span) (x : Int) : Prop := s.lo <= x /\ x <= s.hi
def wW (a b : Span) : Span := ⟨GV a.lo b.lo, PV a.hi b.hi⟩
theorem maxI_le {a b c : Int} : GV a b <= c ↔ a <= c /\ b <= c := by unfold GV; split <;> omega
theorem le_minI {a b c : Int} : c <= PV a b ↔ c <= a /\ c <= b := by unfold PV; split <;> omega
theorem Le {a b : Span} {x : Int} : (wW a b).has x ↔ a.has x /\ b.has x := by
 unfold Span.has wW; rw [maxI_le, le_minI]; omega
theorem BRV (a b : Span) : a.lo <= (wW a b).lo := (maxI_le.1 (Int.le_refl _)).1
theorem BRM (a b : Span) : (wW a b).hi <= a.hi := (le_minI.1 (Int.le_refl _)).1
structure Tr (l s : Nat -> Span) (n : Nat) (t : Nat -> Int) : Prop where
 at_ : ∀ i, i <= n -> (l i).has (t i)
 gap : ∀ g, g < n -> (s g).has (t (g + 1) - t g)
structure ArcOk (N s : Nat -> Span) (n : Nat) : Prop where
 ne : ∀ i, i <= n -> (N i).lo <= (N i).hi
 up : ∀ g, g < n -> ∀ x, (N g).has x -> (N (g + 1)).has (GV (N (g + 1)).lo (x + (s g).lo)) /\ (s g).has (GV (N (g + 1)).lo (x + (s g).lo) - x)
 down : ∀ g, g < n -> ∀ y, (N (g + 1)).has y -> ∃ x, (N g).has x /\ (s g).has (y - x)
theorem Tr.ext {l s : Nat -> Span} {n : Nat} {t : Nat -> Int} (h : Tr l s n t) {y : Int} (h1 : (l (n + 1)).has y) (h2 : (s n).has (y - t n)) : Tr l s (n + 1) (λ k => if k = n + 1 then y else t k) := by
 refine ⟨λ i hi => ?_, λ g hg => ?_⟩
 ·by_cases e : i = n + 1
  ·subst e; simpa using h1
  ·simp only [e, if_false]; exact h.at_ i (by omega)
 ·by_cases e : g = n
  ·subst e; simpa using h2
  ·have e1 : ¬ g + 1 = n + 1 := by omega
   have e2 : ¬ g = n + 1 := by omega
   simp only [e1, e2, if_false]; exact h.gap g (by omega)
theorem ArcOk.some {N s : Nat -> Span} {n : Nat} (h : ArcOk N s n) {i : Nat} (hi : i <= n) {x : Int} (hx : (N i).has x) : ∃ t, Tr N s n t /\ t i = x := by
 have low : ∀ i, i <= n -> ∀ x, (N i).has x -> ∃ t, Tr N s i t /\ t i = x := by
  intro i
  induction i with
  | zero =>
   intro _ x hx
   refine ⟨λ _ => x, ⟨λ k hk => ?_, λ g hg => by omega⟩, rfl⟩
   obtain rfl : k = 0 := by omega
   exact hx
  | succ i ih =>
   intro hi x hx
   obtain ⟨y, hy1, hy2⟩ := h.down i (by omega) x hx
   obtain ⟨t, ht, rfl⟩ := ih (by omega) y hy1
   exact ⟨_, ht.ext hx hy2, by simp⟩
 have high : ∀ d, i + d <= n -> ∃ t, Tr N s (i + d) t /\ t i = x := by
  intro d
  induction d with
  | zero => intro _; exact low i hi x hx
  | succ d ih =>
   intro hm
   obtain ⟨t, ht, rfl⟩ := ih (by omega)
   obtain ⟨h1, h2⟩ := h.up (i + d) (by omega) (t (i + d)) (ht.at_ _ (Nat.le_refl _))
   have e : ¬ i = i + d + 1 := by omega
   exact ⟨_, ht.ext h1 h2, by simp only [e, if_false]⟩
 have := high (n - i) (by omega)
 rwa [show i + (n - i) = n by omega] at this
def lowT (N s : Nat -> Span) : Nat -> Int
 | 0 => (N 0).lo
 | g + 1 => GV (N (g + 1)).lo (lowT N s g + (s g).lo)
theorem ArcOk.low {N s : Nat -> Span} {n : Nat} (h : ArcOk N s n) : Tr N s n (lowT N s) := by
 have : ∀ i, i <= n -> (N i).has (lowT N s i) := by
  intro i
  induction i with
  | zero => intro _; exact ⟨Int.le_refl _, h.ne 0 (by omega)⟩
  | succ i ih => intro hi; exact (h.up i (by omega) _ (ih (by omega))).1
 exact ⟨this, λ g hg => (h.up g hg _ (this g (by omega))).2⟩
def fw (l s : Nat -> Span) : Nat -> Span
 | 0 => l 0
 | g + 1 => wW (l (g + 1)) ⟨(fw l s g).lo + (s g).lo, (fw l s g).hi + (s g).hi⟩
def bk (f s : Nat -> Span) (n : Nat) : Nat -> Span
 | 0 => f n
 | j + 1 => wW (f (n - (j + 1))) ⟨(bk f s n j).lo - (s (n - (j + 1))).hi, (bk f s n j).hi - (s (n - (j + 1))).lo⟩
def nar (l s : Nat -> Span) (n i : Nat) : Span := bk (fw l s) s n (n - i)
theorem BSA {l s : Nat -> Span} {x : Int} : ∀ {i : Nat}, (fw l s i).has x -> (l i).has x
 | 0, h => h
 | i + 1, h => (Le.1 h).1
theorem BCD {f s : Nat -> Span} {n : Nat} {x : Int} : ∀ {j : Nat}, (bk f s n j).has x -> (f (n - j)).has x
 | 0, h => h
 | j + 1, h => (Le.1 h).1
theorem BIZ {l s : Nat -> Span} {n i : Nat} {x : Int} (hi : i <= n) (h : (nar l s n i).has x) : (l i).has x := by
 have := BSA (BCD h)
 rwa [show n - (n - i) = i by omega] at this
theorem Tr.fw {l s : Nat -> Span} {n : Nat} {t : Nat -> Int} (h : Tr l s n t) : ∀ i, i <= n -> (fw l s i).has (t i)
 | 0, hi => h.at_ 0 hi
 | i + 1, hi => by
  refine Le.2 ⟨h.at_ _ hi, ?_⟩
  have h1 := h.fw i (by omega)
  have h2 := h.gap i (by omega)
  unfold Span.has at *; simp only; omega
theorem Tr.nar {l s : Nat -> Span} {n : Nat} {t : Nat -> Int} (h : Tr l s n t) : ∀ i, i <= n -> (nar l s n i).has (t i) := by
 have : ∀ j, j <= n -> (bk (Bal.fw l s) s n j).has (t (n - j)) := by
  intro j
  induction j with
  | zero => intro _; exact h.fw n (Nat.le_refl n)
  | succ j ih =>
   intro hj
   refine Le.2 ⟨h.fw _ (by omega), ?_⟩
   have h1 := ih (by omega)
   have h2 := h.gap (n - (j + 1)) (by omega)
   rw [show n - (j + 1) + 1 = n - j by omega] at h2
   unfold Span.has at *; simp only; omega
 intro i hi
 have h := this (n - i) (by omega)
 rwa [show n - (n - i) = i by omega] at h
theorem BLD {l s : Nat -> Span} {n : Nat} (hs : ∀ g, g < n -> (s g).lo <= (s g).hi) (hne : ∀ i, i <= n -> (nar l s n i).lo <= (nar l s n i).hi) : ArcOk (nar l s n) s n := by
 have eb : ∀ g, g < n -> nar l s n g = wW (fw l s g) ⟨(nar l s n (g + 1)).lo - (s g).hi, (nar l s n (g + 1)).hi - (s g).lo⟩ := λ g hg => by
  unfold nar
  obtain ⟨j, hj⟩ : ∃ j, n - g = j + 1 := ⟨n - g - 1, by omega⟩
  rw [hj, show n - (g + 1) = j by omega]
  show wW (fw l s (n - (j + 1))) _ = _
  rw [show n - (j + 1) = g by omega]
 refine ⟨hne, λ g hg x hx => ?_, λ g hg y hy => ?_⟩
 ·have h1 := hne (g + 1) (by omega)
  have h2 := hs g hg
  rw [eb g hg] at hx
  have h3 := (Le.1 hx).2
  generalize nar l s n (g + 1) = N at *
  unfold Span.has GV at *; simp only at h3; split <;> omega
 ·have h1 := hs g hg
  have h2 := hne g (by omega)
  have e := eb g hg
  have h4 : (fw l s (g + 1)).has y := by
   have := BCD (f := fw l s) (s := s) (n := n) hy
   rwa [show n - (n - (g + 1)) = g + 1 by omega] at this
  have h5 := (Le.1 h4).2
  have h6 : (fw l s g).lo <= (fw l s g).hi := by
   rw [e] at h2
   have := BRV (fw l s g) ⟨(nar l s n (g + 1)).lo - (s g).hi, (nar l s n (g + 1)).hi - (s g).lo⟩
   have := BRM (fw l s g) ⟨(nar l s n (g + 1)).lo - (s g).hi, (nar l s n (g + 1)).hi - (s g).lo⟩
   omega
  refine ⟨GV (fw l s g).lo (y - (s g).hi), ?_, ?_⟩
  ·rw [e]; refine Le.2 ?_
   generalize nar l s n (g + 1) = N at *
   generalize fw l s g = F at *
   unfold Span.has GV at *; simp only at h5 ⊢; split <;> omega
  ·generalize fw l s g = F at *
   unfold Span.has GV at *; simp only at h5 ⊢; split <;> omega
theorem AWN {l s : Nat -> Span} {n : Nat} (hs : ∀ g, g < n -> (s g).lo <= (s g).hi) (hne : ∀ i, i <= n -> (nar l s n i).lo <= (nar l s n i).hi) {i : Nat} (hi : i <= n) {x : Int} : (nar l s n i).has x ↔ ∃ t, Tr l s n t /\ t i = x := by
 constructor
 ·intro hx
  obtain ⟨t, ht, e⟩ := (BLD hs hne).some hi hx
  exact ⟨t, ⟨λ k hk => BIZ hk (ht.at_ k hk), ht.gap⟩, e⟩
 ·rintro ⟨t, ht, rfl⟩; exact ht.nar i hi
theorem ARE {l s : Nat -> Span} {n : Nat} (hs : ∀ g, g < n -> (s g).lo <= (s g).hi) : (∀ i, i <= n -> (nar l s n i).lo <= (nar l s n i).hi) ↔ ∃ t, Tr l s n t :=
 ⟨λ h => let ⟨t, ht, _⟩ := (AWN hs h (Nat.zero_le n)).1 ⟨Int.le_refl _, h 0 (Nat.zero_le n)⟩; ⟨t, ht⟩, λ ⟨t, ht⟩ i hi => Int.le_trans (ht.nar i hi).1 (ht.nar i hi).2⟩
end Go.Bal

namespace Go.Bal
open Go Go.Sym Go.Proofs
structure Mk where
 pl : Int
 ht : Int
 deriving Inhabited, DecidableEq
structure Nt where
 mi : Int
 t : Span
 s : Span
 deriving Inhabited, DecidableEq
structure Pr where
 a : Int
 b : Int
 deriving Inhabited, DecidableEq
structure Cht where
 p : Span
 base : Int
 scale : Int
 off : Int
 ms : List Mk
 ns : List Nt
 deriving Inhabited, DecidableEq
structure Tru where
 t : List Int
 s : List Int
 z : List Int
 deriving Inhabited, DecidableEq
def eMk (m : Mk) : DVal := .agg [RI m.pl, RI m.ht]
def eNt (n : Nt) : DVal := .agg [RI n.mi, RI n.t.lo, RI n.t.hi, RI n.s.lo, RI n.s.hi]
def ePr (p : Pr) : DVal := .agg [RI p.a, RI p.b]
def eMks (l : List Mk) : DVal := lst 2 l.length λ i => eMk (gD l i)
def eNts (l : List Nt) : DVal := lst 5 l.length λ i => eNt (gD l i)
def Zo (l : List Pr) : DVal := lst 2 l.length λ i => ePr (gD l i)
def CK (l : List Span) : DVal := lst 2 l.length λ i => IY (gD l i)
def aK (c : Cht) : DVal := .agg [RI c.p.lo, RI c.p.hi, RI c.base, RI c.scale, RI c.off, eMks c.ms, eNts c.ns]
def eTru (t : Tru) : DVal := .agg [IN t.t, IN t.s, IN t.z]
def dMk : DVal -> Mk
 | .agg [a, b] => ⟨FQ a, FQ b⟩
 | _ => default
def dNt : DVal -> Nt
 | .agg [a, b, c, d, e] => ⟨FQ a, ⟨FQ b, FQ c⟩, ⟨FQ d, FQ e⟩⟩
 | _ => default
def dPr : DVal -> Pr
 | .agg [a, b] => ⟨FQ a, FQ b⟩
 | _ => default
theorem BXI (g : Mk) : dMk (eMk g) = g := rfl
theorem BUJ (g : Nt) : dNt (eNt g) = g := rfl
theorem BVB (g : Pr) : dPr (ePr g) = g := rfl
def dMks (a : AVal) (H : Heap) : Option (List Mk × List Nat) := match wA a H with
 | some (n, g, f) => some (OF n λ i => dMk (g i), f)
 | none => none
def dNts (a : AVal) (H : Heap) : Option (List Nt × List Nat) := match wA a H with
 | some (n, g, f) => some (OF n λ i => dNt (g i), f)
 | none => none
def dPrs (a : AVal) (H : Heap) : Option (List Pr × List Nat) := match wA a H with
 | some (n, g, f) => some (OF n λ i => dPr (g i), f)
 | none => none
def Wx (a : AVal) (H : Heap) : Option (List Span × List Nat) := match wA a H with
 | some (n, g, f) => some (OF n λ i => Hi (g i), f)
 | none => none
def AIZ : AVal -> Heap -> Option (Cht × List Nat)
 | .d (.agg [a, b, c, d, e, .list _ n f _, .list _ m g _]), _ => some (⟨⟨FQ a, FQ b⟩, FQ c, FQ d, FQ e, OF n λ i => dMk (f i), OF m λ i => dNt (g i)⟩, [])
 | .agg [.d a, .d b, .d c, .d d, .d e, x, y], H => match dMks x H, dNts y H with
  | some (l, f1), some (m, f2) => some (⟨⟨FQ a, FQ b⟩, FQ c, FQ d, FQ e, l, m⟩, f1 ++ f2)
  | _, _ => none
 | _, _ => none
def pD {α : Type} (dec : List AVal -> Option α) (val : α -> AVal) (pre : α -> List Prop := λ _ => []) : Sym.Spec := mH λ xs => match dec xs with
 | some a => some (val a, pre a)
 | none => none
theorem Lu {α : Type} {g : FuncId} {dec : List AVal -> Option α} {val : α -> AVal} {pre : α -> List Prop} (enc : α -> List AVal) (hde : ∀ xs a, dec xs = some a -> xs = enc a) (h : ∀ a, DO (pre a) -> FnT Try.prog g (enc a) (AE []) (val a) []) : AR Try.prog g (pD dec val pre) := iN λ xs v p hf hp => by
 split at hf
 ·rename_i a ha
  cases hf
  rw [hde xs a ha]; exact h a hp
 ·cases hf
def dI1 : List AVal -> Option Int
 | [.d (.v (.int .i64 a))] => some a
 | _ => none
def xI1 (a : Int) : List AVal := [.int a]
theorem hI1 (xs : List AVal) (a : Int) (h : dI1 xs = some a) : xs = xI1 a := by
 unfold dI1 at h; split at h <;> cases h; rfl
structure I2 where
 a : Int
 b : Int
structure I3 where
 a : Int
 b : Int
 c : Int
def dI2 : List AVal -> Option I2
 | [.d (.v (.int .i64 a)), .d (.v (.int .i64 b))] => some ⟨a, b⟩
 | _ => none
def xI2 (x : I2) : List AVal := [.int x.a, .int x.b]
theorem hI2 (xs : List AVal) (a : I2) (h : dI2 xs = some a) : xs = xI2 a := by
 unfold dI2 at h; split at h <;> cases h; rfl
def dI3 : List AVal -> Option I3
 | [.d (.v (.int .i64 a)), .d (.v (.int .i64 b)), .d (.v (.int .i64 c))] => some ⟨a, b, c⟩
 | _ => none
def xI3 (x : I3) : List AVal := [.int x.a, .int x.b, .int x.c]
theorem hI3 (xs : List AVal) (a : I3) (h : dI3 xs = some a) : xs = xI3 a := by
 unfold dI3 at h; split at h <;> cases h; rfl
def dS1 : List AVal -> Option Span
 | [.d (.agg [.v (.int .i64 a), .v (.int .i64 b)])] => some ⟨a, b⟩
 | _ => none
def xS1 (g : Span) : List AVal := [.d (IY g)]
theorem hS1 (xs : List AVal) (a : Span) (h : dS1 xs = some a) : xs = xS1 a := by
 unfold dS1 at h; split at h <;> cases h; rfl
structure SII where
 s : Span
 a : Int
 b : Int
def dSII : List AVal -> Option SII
 | [.d (.agg [.v (.int .i64 p), .v (.int .i64 q)]), .d (.v (.int .i64 a)), .d (.v (.int .i64 b))] => some ⟨⟨p, q⟩, a, b⟩
 | _ => none
def xSII (x : SII) : List AVal := [.d (IY x.s), .int x.a, .int x.b]
theorem hSII (xs : List AVal) (a : SII) (h : dSII xs = some a) : xs = xSII a := by
 unfold dSII at h; split at h <;> cases h; rfl
structure NtI where
 n : Nt
 a : Int
def dNtI : List AVal -> Option NtI
 | [.d (.agg [.v (.int .i64 a), .v (.int .i64 b), .v (.int .i64 c), .v (.int .i64 d), .v (.int .i64 e)]), .d (.v (.int .i64 s))] => some ⟨⟨a, ⟨b, c⟩, ⟨d, e⟩⟩, s⟩
 | _ => none
def xNtI (x : NtI) : List AVal := [.d (eNt x.n), .int x.a]
theorem hNtI (xs : List AVal) (a : NtI) (h : dNtI xs = some a) : xs = xNtI a := by
 unfold dNtI at h; split at h <;> cases h; rfl
def orS (s t : Sym.Spec) : Sym.Spec := λ xs H r => match s xs H r with
 | some x => some x
 | none => t xs H r
theorem BBF {g : FuncId} {s t : Sym.Spec} (h1 : AR Try.prog g s) (h2 : AR Try.prog g t) : AR Try.prog g (orS s t) := λ xs H r x hx hp => by
 unfold orS at hx
 split at hx
 ·rename_i y hy; cases hx; exact h1 xs H r _ hy hp
 ·exact h2 xs H r x hx hp
theorem bF {α : Type} [Inhabited α] {l : List α} {k : Nat} (h : k < l.length) : l.take (k + 1) = l.take k ++ [gD l k] := by
 rw [List.take_add_one, List.getElem?_eq_getElem h]; simp [gD, List.getD_eq_getElem?_getD, h]
theorem mulb {a b A B : Int} (h1 : 0 <= a) (h2 : a <= A) (h3 : 0 <= b) (h4 : b <= B) : 0 <= a * b /\ a * b <= A * B :=
 ⟨Int.mul_nonneg h1 h3, Int.mul_le_mul h2 h4 h3 (by omega)⟩
structure NI where
 k : Nat
 m : Int
 deriving Inhabited
theorem CC : ((∀ {b : Bool} {p q : Prop}, (bif b then p else q) = ((b = true -> p) /\ (b = false -> q))) /\ (∀ (p : Prop), (p /\ p) = p) /\ (∀ (p : Prop), (True /\ p) = p) /\ (∀ (p : Prop), (p /\ True) = p) /\ (∀ (p : Prop), (True -> p) = p) /\ (∀ {p : Prop} [inst : Decidable p], (decide p = true) = p) /\ (∀ {p : Prop} {x : Decidable p}, decide p = false ↔ ¬p)) /\ (∀ (n : Nat), (n : Int).toNat = n) /\ (∀ (s : Span), Hi (IY s) = s) /\ (∀ (n : Int), FQ (RI n) = n) /\ (∀ (g : Mk), dMk (eMk g) = g) /\ (∀ (g : Nt), dNt (eNt g) = g) /\ (∀ (g : Pr), dPr (ePr g) = g) /\ (∀ (n : Nat), 0 + n = n) /\ (∀ (a : Int), 0 - a = -a) /\ (∀ {x y : Nat}, x.le y = (x <= y)) /\ (∀ (n : Nat), n.succ = n + 1) /\ (∀ {n m : Nat}, n + 1 <= m ↔ n < m) /\ (∀ (b : Bool), ((!b) = true) = (b = false)) /\ (∀ (b : Bool), ((!b) = false) = (b = true)) /\ (∀ {α : Type} (n : Nat) (f : Nat -> α), (OF n f).length = n) /\ (∀ (a b : Int), Hi (.agg [RI a, RI b]) = ⟨a, b⟩) /\ (∀ {α : Type} [Inhabited α] (l : List α), (OF l.length λ i => gD l i) = l) := ⟨⟨BHY, and_self, true_and, and_true, true_implies, decide_eq_true_eq, decide_eq_false_iff_not⟩, Int.toNat_natCast, dSpan_eSpan, dInt_eInt, BXI, BUJ, BVB, Nat.zero_add, Int.zero_sub, Nat.le_eq, Nat.succ_eq_add_one, Nat.add_one_le_iff, Bool.not_eq_true', Bool.not_eq_false', rng_length, BDS, PL⟩
end Go.Bal
namespace Go.Bal.DL
open Go.Sym Go
theorem g1 (s : Mk) : dMk (eMk s) = s := rfl
theorem g2 (s : Nt) : dNt (eNt s) = s := rfl
theorem g3 (s : Pr) : dPr (ePr s) = s := rfl
theorem h1 (a b : Int) : dMk (.agg [RI a, RI b]) = Mk.mk a b := rfl
theorem h2 (a b c d e : Int) : dNt (.agg [RI a, RI b, RI c, RI d, RI e]) = Nt.mk a (Span.mk b c) (Span.mk d e) := rfl
theorem h3 (a b : Int) : dPr (.agg [RI a, RI b]) = Pr.mk a b := rfl
theorem k1 (s : Mk) : Mk.mk s.pl s.ht = s := rfl
theorem k2 (s : Nt) : Nt.mk s.mi (Span.mk s.t.lo s.t.hi) (Span.mk s.s.lo s.s.hi) = s := rfl
theorem k3 (s : Pr) : Pr.mk s.a s.b = s := rfl
end Go.Bal.DL
