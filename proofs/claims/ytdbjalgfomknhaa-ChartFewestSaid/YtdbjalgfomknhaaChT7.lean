/- Package chart: the fewest stops are enough, and no fewer are (no program in sight). -/
import Derived.Test.YtdbjalgfomknhaaChT2
import Derived.Test.YtdbjalgfomknhaaChK
import Derived.Test.YtdbjalgfomknhaaChT6
set_option linter.unusedVariables false
set_option linter.unusedSimpArgs false
namespace Go.Bal
open Go Go.Sym Go.Proofs
theorem CFV {l s : Nat -> Span} (hs : ∀ g, (s g).lo <= (s g).hi) : ∀ (n : Nat), (∀ i, i <= n -> (fw l s i).lo <= (fw l s i).hi) -> ∀ y, (fw l s n).has y -> ∃ t, Tr l s n t /\ t n = y
 | 0, _, y, hy => ⟨λ _ => y, ⟨λ i hi => (Nat.le_zero.1 hi) ▸ hy, λ g hg => absurd hg (Nat.not_lt_zero _)⟩, rfl⟩
 | n + 1, hne, y, hy => by
  have h1 := hs n
  have h2 := hne n (by omega)
  have h5 := (Qa.1 hy).2
  obtain ⟨t, ht, e⟩ := CFV hs n (λ i hi => hne i (by omega)) (TM (fw l s n).lo (y - (s n).hi)) (by
   generalize fw l s n = F at *
   unfold Span.has TM at *; simp only at h5 ⊢; split <;> omega)
  refine ⟨_, ht.ext (Qa.1 hy).1 ?_, by simp⟩
  rw [e]
  generalize fw l s n = F at *
  unfold Span.has TM at *; simp only at h5 ⊢; split <;> omega
def sumL (s : Nat -> Span) : Nat -> Int
 | 0 => 0
 | g + 1 => sumL s g + (s g).lo
def Rj (s : Nat -> Span) : Nat -> Int
 | 0 => 0
 | g + 1 => Rj s g + (s g).hi
theorem CBJ (a b : Int) : TM a b = a ∨ TM a b = b := by unfold TM; split <;> simp
theorem CBM (a b : Int) : Gd a b = a ∨ Gd a b = b := by unfold Gd; split <;> simp
theorem CGH (l s : Nat -> Span) : ∀ i, ∃ k, k <= i /\ (fw l s i).lo = (l k).lo - sumL s k + sumL s i
 | 0 => ⟨0, Nat.le_refl _, by show (l 0).lo = _; omega⟩
 | i + 1 => by
  obtain ⟨k, hk, e⟩ := CGH l s i
  rcases CBJ (l (i + 1)).lo ((fw l s i).lo + (s i).lo) with h | h
  ·exact ⟨i + 1, Nat.le_refl _, by show TM _ _ = _; rw [h]; omega⟩
  ·refine ⟨k, by omega, ?_⟩
   have e2 : sumL s (i + 1) = sumL s i + (s i).lo := rfl
   show TM (l (i + 1)).lo ((fw l s i).lo + (s i).lo) = _
   rw [h, e2, e]; omega
theorem CFW (l s : Nat -> Span) : ∀ i, ∃ k, k <= i /\ (fw l s i).hi = (l k).hi - Rj s k + Rj s i
 | 0 => ⟨0, Nat.le_refl _, by show (l 0).hi = _; omega⟩
 | i + 1 => by
  obtain ⟨k, hk, e⟩ := CFW l s i
  rcases CBM (l (i + 1)).hi ((fw l s i).hi + (s i).hi) with h | h
  ·exact ⟨i + 1, Nat.le_refl _, by show Gd _ _ = _; rw [h]; omega⟩
  ·refine ⟨k, by omega, ?_⟩
   have e2 : Rj s (i + 1) = Rj s i + (s i).hi := rfl
   show Gd (l (i + 1)).hi ((fw l s i).hi + (s i).hi) = _
   rw [h, e2, e]; omega
theorem CNY {l s : Nat -> Span} {n : Nat} (hs : ∀ g, (s g).lo <= (s g).hi) (h : ∀ i k j, i <= n -> k <= i -> j <= i -> (l k).lo - sumL s k + sumL s i <= (l j).hi - Rj s j + Rj s i) : ∃ t, Tr l s n t := by
 have hne : ∀ i, i <= n -> (fw l s i).lo <= (fw l s i).hi := λ i hi => by
  obtain ⟨k, k1, k2⟩ := CGH l s i
  obtain ⟨j, j1, j2⟩ := CFW l s i
  rw [k2, j2]; exact h i k j hi k1 j1
 obtain ⟨t, ht, _⟩ := CFV hs n hne (fw l s n).lo ⟨Int.le_refl _, hne n (Nat.le_refl n)⟩
 exact ⟨t, ht⟩
def Sv (c : Cht) (i : Nat) : Int := (gD c.ms i).pl
theorem ChOk.pl_le {c : Cht} (h : ChOk c) {j k : Nat} (hjk : j <= k) (hk : k < c.ms.length) : Sv c j <= Sv c k := by
 induction k with
 | zero =>
  obtain rfl : j = 0 := by omega
  exact Int.le_refl _
 | succ k ih =>
  rcases Nat.lt_or_ge j (k + 1) with q | q
  ·have := ih (by omega) (by omega)
   have u := h.up k hk
   unfold Sv at *; omega
  ·obtain rfl : j = k + 1 := by omega
   exact Int.le_refl _
theorem ChOk.pl_in {c : Cht} (h : ChOk c) {j k : Nat} (hj : j < c.ms.length) (hk : k < c.ms.length) : Sv c k - Sv c j <= 10000 /\ -10000 <= Sv c k - Sv c j := by
 have a := (h.mks j hj).1
 have b := (h.mks k hk).1
 unfold Sv; omega
theorem TrC.upto {c : Cht} {sp : Nat -> Bool} {t : Nat -> Int} (h : TrC c sp t) {j : Nat} : ∀ {k : Nat}, j <= k -> k < c.ms.length -> (∀ g, j <= g -> g < k -> sp g = false) -> t k - t j <= c.p.hi * Sv c k - c.p.hi * Sv c j
 | 0, hj, _, _ => by
  obtain rfl : j = 0 := by omega
  omega
 | k + 1, hj, hk, hn => by
  rcases Nat.lt_or_ge j (k + 1) with q | q
  ·have ih := h.upto (j := j) (k := k) (by omega) (by omega) (λ g a b => hn g a (by omega))
   have g := (h.gap k (by omega)).2
   have g : t (k + 1) - t k <= bif sp k then 200000000 else c.p.hi * (Sv c (k + 1) - Sv c k) := g
   rw [hn k (by omega) (by omega)] at g
   have g : t (k + 1) - t k <= c.p.hi * (Sv c (k + 1) - Sv c k) := g
   rw [Int.mul_sub] at g
   omega
  ·obtain rfl : j = k + 1 := by omega
   omega
theorem TrC.least {c : Cht} {sp : Nat -> Bool} {t : Nat -> Int} (h : TrC c sp t) {j : Nat} : ∀ {k : Nat}, j <= k -> k < c.ms.length -> c.p.lo * Sv c k - c.p.lo * Sv c j <= t k - t j
 | 0, hj, _ => by
  obtain rfl : j = 0 := by omega
  omega
 | k + 1, hj, hk => by
  rcases Nat.lt_or_ge j (k + 1) with q | q
  ·have ih := h.least (j := j) (k := k) (by omega) (by omega)
   have g := (h.gap k (by omega)).1
   have g : c.p.lo * (Sv c (k + 1) - Sv c k) <= t (k + 1) - t k := g
   rw [Int.mul_sub] at g
   omega
  ·obtain rfl : j = k + 1 := by omega
   omega
def ltM (c : Cht) (j k : Nat) : Prop := c.p.hi * Sv c k - c.p.hi * Sv c j < (bD c k).lo - (bD c j).hi
theorem BDE {c : Cht} {sp : Nat -> Bool} {t : Nat -> Int} (h : TrC c sp t) {j k : Nat} (hjk : j <= k) (hk : k < c.ms.length) (hl : ltM c j k) : ∃ g, j <= g /\ g < k /\ sp g = true := by
 refine Classical.byContradiction λ hn => ?_
 have := h.upto hjk hk λ g a b => by
  cases hs : sp g with
  | false => rfl
  | true => exact absurd ⟨g, a, b, hs⟩ hn
 have n1 := h.note (i := j) (by omega)
 have n2 := h.note (i := k) hk
 unfold ltM at hl
 unfold Span.has at n1 n2
 omega
def gpF (c : Cht) (sp : Nat -> Bool) (g : Nat) : Span := bif decide (g + 1 < c.ms.length) then gapP c sp g else ⟨0, 0⟩
theorem AJP {c : Cht} {sp : Nat -> Bool} {g : Nat} (h : g + 1 < c.ms.length) : gpF c sp g = gapP c sp g := by unfold gpF; rw [decide_eq_true h]; rfl
theorem BZH {c : Cht} (h : ChOk c) (sp : Nat -> Bool) (g : Nat) : (gpF c sp g).lo <= (gpF c sp g).hi := by
 by_cases q : g + 1 < c.ms.length
 ·rw [AJP q]; exact (h.gap sp q).2.2
 ·unfold gpF; rw [decide_eq_false q]; exact Int.le_refl _
theorem BGQ {c : Cht} {sp : Nat -> Bool} : ∀ {i : Nat}, i < c.ms.length -> sumL (gpF c sp) i = c.p.lo * Sv c i - c.p.lo * Sv c 0
 | 0, _ => by show (0 : Int) = _; omega
 | i + 1, h => by
  have ih := BGQ (c := c) (sp := sp) (i := i) (by omega)
  show sumL (gpF c sp) i + (gpF c sp i).lo = _
  rw [ih, AJP h]
  show _ + c.p.lo * (Sv c (i + 1) - Sv c i) = _
  rw [Int.mul_sub]; omega
theorem AXT {c : Cht} (h : ChOk c) (sp : Nat -> Bool) {j : Nat} : ∀ {i : Nat}, j <= i -> i < c.ms.length -> c.p.lo * Sv c i - c.p.lo * Sv c j <= Rj (gpF c sp) i - Rj (gpF c sp) j
 | 0, hj, _ => by
  obtain rfl : j = 0 := by omega
  omega
 | i + 1, hj, hi => by
  rcases Nat.lt_or_ge j (i + 1) with q | q
  ·have ih := AXT h sp (j := j) (i := i) (by omega) (by omega)
   have g := BZH h sp i
   rw [AJP hi] at g
   have g : c.p.lo * (Sv c (i + 1) - Sv c i) <= (gapP c sp i).hi := g
   rw [Int.mul_sub] at g
   have e : Rj (gpF c sp) (i + 1) = Rj (gpF c sp) i + (gapP c sp i).hi := by show Rj (gpF c sp) i + (gpF c sp i).hi = _; rw [AJP hi]
   rw [e]; omega
  ·obtain rfl : j = i + 1 := by omega
   omega
theorem BOZ {c : Cht} (sp : Nat -> Bool) {j : Nat} : ∀ {k : Nat}, j <= k -> k < c.ms.length -> (∀ g, j <= g -> g < k -> sp g = false) -> Rj (gpF c sp) k - Rj (gpF c sp) j = c.p.hi * Sv c k - c.p.hi * Sv c j
 | 0, hj, _, _ => by
  obtain rfl : j = 0 := by omega
  omega
 | k + 1, hj, hk, hn => by
  rcases Nat.lt_or_ge j (k + 1) with q | q
  ·have ih := BOZ (c := c) sp (j := j) (k := k) (by omega) (by omega) (λ g a b => hn g a (by omega))
   have e : Rj (gpF c sp) (k + 1) = Rj (gpF c sp) k + (gapP c sp k).hi := by show Rj (gpF c sp) k + (gpF c sp k).hi = _; rw [AJP hk]
   have e2 : (gapP c sp k).hi = c.p.hi * (Sv c (k + 1) - Sv c k) := by
    show (bif sp k then (200000000 : Int) else c.p.hi * Pq c k) = _
    rw [hn k (by omega) (by omega)]; rfl
   rw [e, e2, Int.mul_sub]; omega
  ·obtain rfl : j = k + 1 := by omega
   omega
theorem BFK {c : Cht} (h : ChOk c) (sp : Nat -> Bool) {j k : Nat} (hjk : j <= k) (hk : k < c.ms.length) : Rj (gpF c sp) j <= Rj (gpF c sp) k := by
 have := AXT h sp hjk hk
 have p := h.pl_le hjk hk
 have q : c.p.lo * Sv c j <= c.p.lo * Sv c k := Int.mul_le_mul_of_nonneg_left p (by have := h.p; omega)
 omega
theorem BSR {c : Cht} (h : ChOk c) (sp : Nat -> Bool) {j k g : Nat} (h1 : j <= g) (h2 : g < k) (hk : k < c.ms.length) (hs : sp g = true) : 200000000 <= Rj (gpF c sp) k - Rj (gpF c sp) j := by
 have a := BFK h sp h1 (show g < _ by omega)
 have b := BFK h sp (show g + 1 <= k by omega) hk
 have e : Rj (gpF c sp) (g + 1) = Rj (gpF c sp) g + (gapP c sp g).hi := by show Rj (gpF c sp) g + (gpF c sp g).hi = _; rw [AJP (by omega)]
 have e2 : (gapP c sp g).hi = 200000000 := by
  show (bif sp g then (200000000 : Int) else c.p.hi * Pq c g) = _
  rw [hs]; rfl
 omega
theorem BQH {c : Cht} (h : ChOk c) (j : Int) : (hasN c.ns j = true -> 0 <= (bD c j).lo /\ (bD c j).hi <= 10000000) /\ (hasN c.ns j = false -> bD c j = ⟨-100000000, 100000000⟩) := by
 unfold bD
 constructor
 ·intro hj
  rw [hj]
  have := (h.nt _ (J7 hj).1).t
  show 0 <= (ntOf c.ns j).t.lo /\ (ntOf c.ns j).t.hi <= 10000000
  omega
 ·intro hj; rw [hj]; rfl
theorem BWJ {c : Cht} (h : ChOk c) {sp0 : Nat -> Bool} {t0 : Nat -> Int} (ht : TrC c sp0 t0) {sp : Nat -> Bool} (hl : ∀ j k, j < k -> k < c.ms.length -> hasN c.ns j = true -> hasN c.ns k = true -> ltM c j k -> ∃ g, j <= g /\ g < k /\ sp g = true) : ∃ t, TrC c sp t := by
 have hm := h.m
 have main : ∃ t, Tr (λ i => bD c i) (gpF c sp) (c.ms.length - 1) t := CNY (BZH h sp) λ i k j hi hk hj => by
  have hi : i < c.ms.length := by omega
  rw [BGQ hi, BGQ (show k < _ by omega)]
  have nk := BQH h (k : Int)
  have nj := BQH h (j : Int)
  have bk := AXN h (k : Int)
  have bj := AXN h (j : Int)
  unfold bdS at bk bj
  rcases Nat.lt_or_ge j k with q | q
  ·have s1 := AXT h sp (show k <= i by omega) hi
   have main : (bD c (k : Int)).lo <= (bD c (j : Int)).hi + (Rj (gpF c sp) k - Rj (gpF c sp) j) := by
    have up := BFK h sp (Nat.le_of_lt q) (show k < _ by omega)
    cases ek : hasN c.ns (k : Int) with
    | false => rw [nk.2 ek]; show (-100000000 : Int) <= _; omega
    | true =>
     cases ej : hasN c.ns (j : Int) with
     | false => rw [nj.2 ej]; show _ <= (100000000 : Int) + _; have := nk.1 ek; omega
     | true =>
      have a := nk.1 ek
      have b := nj.1 ej
      by_cases hs : ∃ g, j <= g /\ g < k /\ sp g = true
      ·obtain ⟨g, g1, g2, g3⟩ := hs
       have := BSR h sp g1 g2 (show k < _ by omega) g3
       omega
      ·have e := BOZ (c := c) sp (Nat.le_of_lt q) (show k < _ by omega) λ g a b => by
        cases hg : sp g with
        | false => rfl
        | true => exact absurd ⟨g, a, b, hg⟩ hs
       have : ¬ ltM c j k := λ hq => hs (hl j k q (by omega) ej ek hq)
       unfold ltM at this
       omega
   omega
  ·have s1 := AXT h sp hj hi
   have l1 := ht.least (j := k) (k := j) q (by omega)
   have n1 := ht.note (i := k) (by omega)
   have n2 := ht.note (i := j) (by omega)
   unfold Span.has at n1 n2
   omega
 obtain ⟨t, ht⟩ := main
 exact ⟨t, ht.ext2 (λ _ _ => rfl) (λ g hg => AJP (by omega))⟩
theorem Sq (c : Cht) : (CB c).length = c.ns.length := by
 have := (AAE (cH c) (idL c.ns.length)).length_eq
 unfold CB idL at *
 rw [this, rng_length]
theorem pC (c : Cht) {i : Nat} (hi : i < c.ns.length) : ∃ j : Nat, j < c.ns.length /\ gD (CB c) i = (j : Int) := by
 have h : gD (CB c) i ∈ CB c := HP (by rw [Sq]; exact hi)
 have h := ((AAE (cH c) (idL c.ns.length)).mem_iff).1 h
 obtain ⟨j, hj, e⟩ := XR h
 unfold idL at hj e
 rw [rng_length] at hj
 rw [EK _ _ _ hj] at e
 exact ⟨j, hj, e.symm⟩
theorem BNS (c : Cht) : (CB c).Nodup := by
 have h : (idL c.ns.length).Nodup := by
  unfold idL HX
  rw [List.nodup_iff_pairwise_ne, List.pairwise_map]
  exact List.Pairwise.imp (λ h => by omega) (List.pairwise_lt_range)
 exact ((AAE (cH c) (idL c.ns.length)).nodup_iff).2 h
theorem BDN (c : Cht) {j : Nat} (hj : j < c.ns.length) : ∃ i, i < c.ns.length /\ gD (CB c) i = (j : Int) := by
 have h : (j : Int) ∈ idL c.ns.length := by
  have : gD (idL c.ns.length) j ∈ idL c.ns.length := HP (by unfold idL; rw [rng_length]; exact hj)
  unfold idL at this ⊢
  rwa [EK _ _ _ hj] at this
 have h := ((AAE (cH c) (idL c.ns.length)).mem_iff).2 h
 obtain ⟨i, hi, e⟩ := XR (show (j : Int) ∈ CB c from h)
 exact ⟨i, by rwa [Sq] at hi, e⟩
def mO (c : Cht) (k : Nat) : Int := miA c (gD (CB c) k)
theorem BLH {c : Cht} (h : ChOk c) {i k : Nat} (hik : i < k) (hk : k < c.ns.length) : mO c i < mO c k := by
 have s : mO c i <= mO c k := BMI (cH c) (idL c.ns.length) i k hik (by unfold idL; rw [rng_length]; omega)
 obtain ⟨a, ha, ea⟩ := pC c (show i < _ by omega)
 obtain ⟨b, hb, eb⟩ := pC c hk
 have ne : a ≠ b := λ e => by
  subst e
  have hn := BNS c
  rw [List.nodup_iff_pairwise_ne, List.pairwise_iff_getElem] at hn
  have := hn i k (by rw [Sq]; omega) (by rw [Sq]; omega) hik
  rw [<- eb] at ea
  unfold gD at ea
  rw [List.getD_eq_getElem?_getD, List.getD_eq_getElem?_getD, List.getElem?_eq_getElem (by rw [Sq]; omega), List.getElem?_eq_getElem (by rw [Sq]; omega)] at ea
  exact this ea
 have d : mO c i ≠ mO c k := by
  unfold mO miA
  rw [ea, eb]
  show (gD c.ns a).mi ≠ (gD c.ns b).mi
  rcases Nat.lt_or_gt_of_ne ne with q | q
  ·exact h.one a b q hb
  ·exact (h.one b a q ha).symm
 omega
theorem BCY {c : Cht} (h : ChOk c) {k : Nat} (hk : k < c.ns.length) : 0 <= mO c k /\ mO c k < c.ms.length := by
 obtain ⟨b, hb, eb⟩ := pC c hk
 unfold mO miA
 rw [eb]
 exact (h.nt _ (HP hb)).mi
theorem BCX {c : Cht} (h : ChOk c) {a b : Nat} (ha : a < c.ns.length) (hb : b < c.ns.length) : XN c ⟨a, b⟩ = true ↔ ltM c (gD c.ns a).mi.toNat (gD c.ns b).mi.toNat := by
 have oa := h.nt _ (HP ha)
 have ob := h.nt _ (HP hb)
 have ma := oa.mi
 have mb := ob.mi
 have ea : bD c ((gD c.ns a).mi.toNat : Int) = (gD c.ns a).t := by
  rw [Int.toNat_of_nonneg ma.1]
  unfold bD
  rw [Ss.2 ⟨_, HP ha, rfl⟩, h.ntOf (HP ha)]; rfl
 have eb : bD c ((gD c.ns b).mi.toNat : Int) = (gD c.ns b).t := by
  rw [Int.toNat_of_nonneg mb.1]
  unfold bD
  rw [Ss.2 ⟨_, HP hb, rfl⟩, h.ntOf (HP hb)]; rfl
 have pl := h.pl_in (j := (gD c.ns a).mi.toNat) (k := (gD c.ns b).mi.toNat) (by omega) (by omega)
 have ta := oa.t
 have tb := ob.t
 have hp := h.p
 have e1 : wr (Sv c (gD c.ns b).mi.toNat - Sv c (gD c.ns a).mi.toNat) = Sv c (gD c.ns b).mi.toNat - Sv c (gD c.ns a).mi.toNat := PE (by omega) (by omega)
 have e2 : wr ((gD c.ns b).t.lo - (gD c.ns a).t.hi) = (gD c.ns b).t.lo - (gD c.ns a).t.hi := PE (by omega) (by omega)
 have u1 : c.p.hi * (Sv c (gD c.ns b).mi.toNat - Sv c (gD c.ns a).mi.toNat) <= c.p.hi * 10000 := Int.mul_le_mul_of_nonneg_left pl.1 (by omega)
 have u2 : c.p.hi * (-10000) <= c.p.hi * (Sv c (gD c.ns b).mi.toNat - Sv c (gD c.ns a).mi.toNat) := Int.mul_le_mul_of_nonneg_left pl.2 (by omega)
 have e3 : wr (c.p.hi * (Sv c (gD c.ns b).mi.toNat - Sv c (gD c.ns a).mi.toNat)) = c.p.hi * (Sv c (gD c.ns b).mi.toNat - Sv c (gD c.ns a).mi.toNat) := PE (by omega) (by omega)
 have e4 : c.p.hi * (Sv c (gD c.ns b).mi.toNat - Sv c (gD c.ns a).mi.toNat) = c.p.hi * Sv c (gD c.ns b).mi.toNat - c.p.hi * Sv c (gD c.ns a).mi.toNat := Int.mul_sub _ _ _
 show decide (wr ((gD c.ns b).t.lo - (gD c.ns a).t.hi) > wr (c.p.hi * wr (Sv c (gD c.ns b).mi.toNat - Sv c (gD c.ns a).mi.toNat))) = true ↔ _
 rw [e1, e2, e3, e4, decide_eq_true_eq]
 unfold ltM
 rw [ea, eb]
def ltO (c : Cht) (i k : Nat) : Prop := ltM c (mO c i).toNat (mO c k).toNat
theorem BGU {c : Cht} (h : ChOk c) {la : Int} {i k : Nat} (hi : i < c.ns.length) (hk : k < c.ns.length) : fwP c la (gD (CB c) k) (gD (CB c) i) = true ↔ la < mO c i /\ ltO c i k := by
 obtain ⟨a, ha, ea⟩ := pC c hi
 obtain ⟨b, hb, eb⟩ := pC c hk
 unfold fwP ltO mO
 rw [ea, eb]
 by_cases q : miA c (a : Int) > la
 ·rw [decide_eq_true q]
  show XN c ⟨a, b⟩ = true ↔ _
  rw [BCX h ha hb]
  exact ⟨λ x => ⟨q, x⟩, λ x => x.2⟩
 ·rw [decide_eq_false q]
  exact ⟨λ x => (by cases x), λ x => absurd x.1 q⟩
structure FwI (c : Cht) (k : Nat) (s : FwS) : Prop where
 la : -1 <= s.la /\ s.la + 1 < c.ms.length + 1
 mem : s.la = -1 ∨ s.la ∈ s.q
 q : ∀ g ∈ s.q, (0 <= g /\ g + 1 < c.ms.length) /\ g <= s.la
 up : s.q.Pairwise (· < ·)
 nx : ∀ i, i < c.ns.length -> k <= i -> s.la < mO c i
 met : ∀ i j, i < j -> j < k -> ltO c i j -> ∃ g ∈ s.q, mO c i <= g /\ g < mO c j
 min : ∀ (sp : Nat -> Bool) (t : Nat -> Int) (z : List Int), TrC c sp t -> (∀ g : Nat, sp g = true -> (g : Int) ∈ z) -> s.q.length <= (z.filter (λ x => decide (x <= s.la))).length
theorem BIM {z : List Int} {a b x : Int} (hx : x ∈ z) (h1 : a < x) (h2 : x <= b) : (z.filter (λ y => decide (y <= a))).length + 1 <= (z.filter (λ y => decide (y <= b))).length := by
 have mono : ∀ l : List Int, (l.filter (λ y => decide (y <= a))).length <= (l.filter (λ y => decide (y <= b))).length := λ l => by
  induction l with
  | nil => exact Nat.le_refl _
  | cons y l ih =>
   rw [List.filter_cons, List.filter_cons]
   by_cases q : y <= a
   ·have : y <= b := by omega
    simp [q, this]; exact ih
   ·by_cases r : y <= b
    ·simp [q, r]; omega
    ·simp [q, r]; exact ih
 induction z with
 | nil => cases hx
 | cons y l ih =>
  rw [List.filter_cons, List.filter_cons]
  rcases List.mem_cons.1 hx with e | hx
  ·subst e
   have q : ¬ x <= a := by omega
   simp [q, h2]; exact mono l
  ·have ih := ih hx
   by_cases q : y <= a
   ·have : y <= b := by omega
    simp [q, this]; exact ih
   ·by_cases r : y <= b
    ·simp [q, r]; omega
    ·simp [q, r]; exact ih
theorem ANX {c : Cht} (h : ChOk c) : ∀ k, k <= c.ns.length -> FwI c k (TQ c k)
 | 0, _ => ⟨⟨Int.le_refl _, by have := h.m; show (-1 : Int) + 1 < _; omega⟩, .inl rfl, λ g hg => (by cases hg), .nil, λ i hi _ => by have := BCY h hi; show (-1 : Int) < _; omega, λ i j _ hj => absurd hj (Nat.not_lt_zero _), λ _ _ _ _ _ => Nat.zero_le _⟩
 | k + 1, hk => by
  have ih := ANX h k (by omega)
  have hk' : k < c.ns.length := by omega
  have bk := BCY h hk'
  show FwI c (k + 1) (fwN c (TQ c k) (gD (CB c) k) (((CB c).take k).find? (fwP c (TQ c k).la (gD (CB c) k))))
  have lt : ((CB c).take k).length = k := by rw [List.length_take, Sq]; omega
  by_cases hex : ∃ j, j < k /\ fwP c (TQ c k).la (gD (CB c) k) (gD (CB c) j) = true
  ·have hm : ((CB c).take k).find? (fwP c (TQ c k).la (gD (CB c) k)) ≠ none := λ e => by
    obtain ⟨j, hj, hp⟩ := hex
    have := List.find?_eq_none.1 e (gD (CB c) j) (by
     rw [<- Qd (l := CB c) hj]; exact HP (by rw [lt]; exact hj))
    exact this hp
   obtain ⟨a, ea⟩ := Option.ne_none_iff_exists'.1 hm
   have am := List.mem_of_find?_eq_some ea
   have ap := List.find?_some ea
   obtain ⟨j, hj, ej⟩ := XR am
   rw [lt] at hj
   rw [Qd hj] at ej
   subst ej
   rw [ea]
   obtain ⟨p1, p2⟩ := (BGU h (show j < _ by omega) hk').1 ap
   have jk := BLH h hj hk'
   have bj := BCY h (show j < _ by omega)
   have hm40 := h.m
   have e : wr (miA c (gD (CB c) k) - 1) = mO c k - 1 := PE (by show -9223372036854775808 <= mO c k - 1; omega) (by show mO c k - 1 <= 9223372036854775807; omega)
   show FwI c (k + 1) ⟨wr (miA c (gD (CB c) k) - 1), (TQ c k).q ++ [wr (miA c (gD (CB c) k) - 1)], _⟩
   rw [e]
   refine ⟨⟨by show -1 <= mO c k - 1; omega, by show mO c k - 1 + 1 < _; omega⟩, .inr (List.mem_append_right _ (List.mem_singleton.2 rfl)), λ g hg => ?_, ?_, λ i hi hki => ?_, λ i j2 hij hj2 hl => ?_, λ sp t z ht hz => ?_⟩
   ·show (0 <= g /\ g + 1 < _) /\ g <= mO c k - 1
    rcases List.mem_append.1 hg with hg | hg
    ·have := ih.q g hg; omega
    ·have := List.mem_singleton.1 hg; omega
   ·show ((TQ c k).q ++ [_]).Pairwise (· < ·)
    rw [List.pairwise_append]
    refine ⟨ih.up, List.pairwise_singleton _ _, λ g hg x hx => ?_⟩
    have := ih.q g hg
    have := List.mem_singleton.1 hx
    omega
   ·have := BLH h (show k < i by omega) hi
    show mO c k - 1 < _; omega
   ·rcases Nat.lt_or_ge j2 k with q | q
    ·obtain ⟨g, g1, g2⟩ := ih.met i j2 hij q hl
     exact ⟨g, List.mem_append_left _ g1, g2⟩
    ·obtain rfl : j2 = k := by omega
     have := BLH h hij hk'
     exact ⟨mO c j2 - 1, List.mem_append_right _ (List.mem_singleton.2 rfl), by omega⟩
   ·show ((TQ c k).q ++ [_]).length <= (z.filter (λ x => decide (x <= mO c k - 1))).length
    have i1 := ih.min sp t z ht hz
    obtain ⟨g, g1, g2, g3⟩ := BDE ht (j := (mO c j).toNat) (k := (mO c k).toNat) (by omega) (by omega) p2
    have := BIM (hz g g3) (a := (TQ c k).la) (b := mO c k - 1) (by omega) (by omega)
    rw [List.length_append]
    show _ + 1 <= _
    omega
  ·have en : ((CB c).take k).find? (fwP c (TQ c k).la (gD (CB c) k)) = none := BHS λ t ht => by
    rw [lt] at ht
    rw [Qd ht]
    cases hp : fwP c (TQ c k).la (gD (CB c) k) (gD (CB c) t) with
    | false => rfl
    | true => exact absurd ⟨t, ht, hp⟩ hex
   rw [en]
   refine ⟨ih.la, ih.mem, ih.q, ih.up, λ i hi hki => ih.nx i hi (by omega), λ i j hij hj hl => ?_, ih.min⟩
   rcases Nat.lt_or_ge j k with q | q
   ·exact ih.met i j hij q hl
   ·obtain rfl : j = k := by omega
    have no : ¬ ((TQ c j).la < mO c i /\ ltO c i j) := λ x => hex ⟨i, hij, (BGU h (by omega) hk').2 x⟩
    have b := BCY h (show i < _ by omega)
    have nx := ih.nx j hk' (Nat.le_refl _)
    have : ¬ (TQ c j).la < mO c i := λ x => no ⟨x, hl⟩
    rcases ih.mem with m | m
    ·omega
    ·exact ⟨_, m, by omega, nx⟩
theorem BFS {c : Cht} (h : ChOk c) : okZ ⟨c, (PS c).q⟩ = true := by
 have I := ANX h c.ns.length (Nat.le_refl _)
 exact (AOS (a := ⟨c, (PS c).q⟩) h.m).2 ⟨λ g hg => (I.q g hg).1, I.up⟩
theorem BMM {c : Cht} (h : ChOk c) {sp0 : Nat -> Bool} {t0 : Nat -> Int} (ht : TrC c sp0 t0) : ∃ t, TrC c (WL ⟨c, (PS c).q⟩).sp t := by
 have I := ANX h c.ns.length (Nat.le_refl _)
 refine BWJ h ht λ j k hjk hk hj hk2 hl => ?_
 obtain ⟨n1, m1, e1⟩ := Ss.1 hj
 obtain ⟨n2, m2, e2⟩ := Ss.1 hk2
 obtain ⟨a, ha, ea⟩ := XR m1
 obtain ⟨b, hb, eb⟩ := XR m2
 obtain ⟨i, hi, ei⟩ := BDN c ha
 obtain ⟨i2, hi2, ei2⟩ := BDN c hb
 have o1 : mO c i = j := by
  unfold mO miA; rw [ei]; show (gD c.ns a).mi = j; rw [ea]; exact e1
 have o2 : mO c i2 = k := by
  unfold mO miA; rw [ei2]; show (gD c.ns b).mi = k; rw [eb]; exact e2
 have lt : i < i2 := by
  rcases Nat.lt_trichotomy i i2 with q | q | q
  ·exact q
  ·subst q; omega
  ·have := BLH h q hi; omega
 obtain ⟨g, g1, g2, g3⟩ := I.met i i2 lt hi2 (by
  unfold ltO; rw [o1, o2]; exact hl)
 have gb := (I.q g g1).1
 refine ⟨g.toNat, by omega, by omega, ?_⟩
 rw [AXG (a := ⟨c, (PS c).q⟩) h.m (BFS h)]
 rw [Int.toNat_of_nonneg gb.1]; exact g1
theorem BSA {c : Cht} (h : ChOk c) {sp : Nat -> Bool} {t : Nat -> Int} {z : List Int} (ht : TrC c sp t) (hz : ∀ g : Nat, sp g = true -> (g : Int) ∈ z) : (PS c).q.length <= z.length :=
 Nat.le_trans ((ANX h c.ns.length (Nat.le_refl _)).min sp t z ht hz) (List.length_filter_le _ _)
end Go.Bal
