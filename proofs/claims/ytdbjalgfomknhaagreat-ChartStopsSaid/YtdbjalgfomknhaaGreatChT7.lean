/- Package chart: the fewest stops are enough, and no fewer are (no program in sight). -/
import Derived.Test.YtdbjalgfomknhaaGreatChM
import Derived.Test.YtdbjalgfomknhaaGreatChK
import Derived.Test.YtdbjalgfomknhaaGreatChZa
import Derived.Test.YtdbjalgfomknhaaGreatChSp0
set_option linter.unusedVariables false
set_option linter.unusedSimpArgs false
namespace Go.Bal
open Go Go.Sym Go.Proofs
theorem BTH {l s : Nat -> Span} (hs : ∀ g, (s g).lo <= (s g).hi) : ∀ (n : Nat), (∀ i, i <= n -> (fw l s i).lo <= (fw l s i).hi) -> ∀ y, (fw l s n).has y -> ∃ t, Tr l s n t /\ t n = y
 | 0, _, y, hy => ⟨λ _ => y, ⟨λ i hi => (Nat.le_zero.1 hi) ▸ hy, λ g hg => absurd hg (Nat.not_lt_zero _)⟩, rfl⟩
 | n + 1, hne, y, hy => by
  have h1 := hs n
  have h2 := hne n (by omega)
  have h5 := (Ss.1 hy).2
  obtain ⟨t, ht, e⟩ := BTH hs n (λ i hi => hne i (by omega)) (MY (fw l s n).lo (y - (s n).hi)) (by
   generalize fw l s n = F at *
   unfold Span.has MY at *; simp only at h5 ⊢; split <;> omega)
  refine ⟨_, ht.ext (Ss.1 hy).1 ?_, by simp⟩
  rw [e]
  generalize fw l s n = F at *
  unfold Span.has MY at *; simp only at h5 ⊢; split <;> omega
def sumL (s : Nat -> Span) : Nat -> Int
 | 0 => 0
 | g + 1 => sumL s g + (s g).lo
def Pi (s : Nat -> Span) : Nat -> Int
 | 0 => 0
 | g + 1 => Pi s g + (s g).hi
theorem BMB (a b : Int) : MY a b = a ∨ MY a b = b := by unfold MY; split <;> simp
theorem BPR (a b : Int) : XC a b = a ∨ XC a b = b := by unfold XC; split <;> simp
theorem BQO (l s : Nat -> Span) : ∀ i, ∃ k, k <= i /\ (fw l s i).lo = (l k).lo - sumL s k + sumL s i
 | 0 => ⟨0, Nat.le_refl _, by show (l 0).lo = _; omega⟩
 | i + 1 => by
  obtain ⟨k, hk, e⟩ := BQO l s i
  rcases BMB (l (i + 1)).lo ((fw l s i).lo + (s i).lo) with h | h
  ·exact ⟨i + 1, Nat.le_refl _, by show MY _ _ = _; rw [h]; omega⟩
  ·refine ⟨k, by omega, ?_⟩
   have e2 : sumL s (i + 1) = sumL s i + (s i).lo := rfl
   show MY (l (i + 1)).lo ((fw l s i).lo + (s i).lo) = _
   rw [h, e2, e]; omega
theorem BQW (l s : Nat -> Span) : ∀ i, ∃ k, k <= i /\ (fw l s i).hi = (l k).hi - Pi s k + Pi s i
 | 0 => ⟨0, Nat.le_refl _, by show (l 0).hi = _; omega⟩
 | i + 1 => by
  obtain ⟨k, hk, e⟩ := BQW l s i
  rcases BPR (l (i + 1)).hi ((fw l s i).hi + (s i).hi) with h | h
  ·exact ⟨i + 1, Nat.le_refl _, by show XC _ _ = _; rw [h]; omega⟩
  ·refine ⟨k, by omega, ?_⟩
   have e2 : Pi s (i + 1) = Pi s i + (s i).hi := rfl
   show XC (l (i + 1)).hi ((fw l s i).hi + (s i).hi) = _
   rw [h, e2, e]; omega
theorem CAV {l s : Nat -> Span} {n : Nat} (hs : ∀ g, (s g).lo <= (s g).hi) (h : ∀ i k j, i <= n -> k <= i -> j <= i -> (l k).lo - sumL s k + sumL s i <= (l j).hi - Pi s j + Pi s i) : ∃ t, Tr l s n t := by
 have hne : ∀ i, i <= n -> (fw l s i).lo <= (fw l s i).hi := λ i hi => by
  obtain ⟨k, k1, k2⟩ := BQO l s i
  obtain ⟨j, j1, j2⟩ := BQW l s i
  rw [k2, j2]; exact h i k j hi k1 j1
 obtain ⟨t, ht, _⟩ := BTH hs n hne (fw l s n).lo ⟨Int.le_refl _, hne n (Nat.le_refl n)⟩
 exact ⟨t, ht⟩
def Pm (c : Cht) (i : Nat) : Int := (gD c.ms i).pl
theorem ChOk.pl_le {c : Cht} (h : ChOk c) {j k : Nat} (hjk : j <= k) (hk : k < c.ms.length) : Pm c j <= Pm c k := by
 induction k with
 | zero =>
  obtain rfl : j = 0 := by omega
  exact Int.le_refl _
 | succ k ih =>
  rcases Nat.lt_or_ge j (k + 1) with q | q
  ·have := ih (by omega) (by omega)
   have u := h.up k hk
   unfold Pm at *; omega
  ·obtain rfl : j = k + 1 := by omega
   exact Int.le_refl _
theorem ChOk.pl_in {c : Cht} (h : ChOk c) {j k : Nat} (hj : j < c.ms.length) (hk : k < c.ms.length) : Pm c k - Pm c j <= 10000 /\ -10000 <= Pm c k - Pm c j := by
 have a := (h.mks j hj).1
 have b := (h.mks k hk).1
 unfold Pm; omega
theorem TrC.upto {c : Cht} {sp : Nat -> Bool} {t : Nat -> Int} (h : TrC c sp t) {j : Nat} : ∀ {k : Nat}, j <= k -> k < c.ms.length -> (∀ g, j <= g -> g < k -> sp g = false) -> t k - t j <= c.p.hi * Pm c k - c.p.hi * Pm c j
 | 0, hj, _, _ => by
  obtain rfl : j = 0 := by omega
  omega
 | k + 1, hj, hk, hn => by
  rcases Nat.lt_or_ge j (k + 1) with q | q
  ·have ih := h.upto (j := j) (k := k) (by omega) (by omega) (λ g a b => hn g a (by omega))
   have g := (h.gap k (by omega)).2
   have g : t (k + 1) - t k <= bif sp k then 200000000 else c.p.hi * (Pm c (k + 1) - Pm c k) := g
   rw [hn k (by omega) (by omega)] at g
   have g : t (k + 1) - t k <= c.p.hi * (Pm c (k + 1) - Pm c k) := g
   rw [Int.mul_sub] at g
   omega
  ·obtain rfl : j = k + 1 := by omega
   omega
theorem TrC.least {c : Cht} {sp : Nat -> Bool} {t : Nat -> Int} (h : TrC c sp t) {j : Nat} : ∀ {k : Nat}, j <= k -> k < c.ms.length -> c.p.lo * Pm c k - c.p.lo * Pm c j <= t k - t j
 | 0, hj, _ => by
  obtain rfl : j = 0 := by omega
  omega
 | k + 1, hj, hk => by
  rcases Nat.lt_or_ge j (k + 1) with q | q
  ·have ih := h.least (j := j) (k := k) (by omega) (by omega)
   have g := (h.gap k (by omega)).1
   have g : c.p.lo * (Pm c (k + 1) - Pm c k) <= t (k + 1) - t k := g
   rw [Int.mul_sub] at g
   omega
  ·obtain rfl : j = k + 1 := by omega
   omega
def ltM (c : Cht) (j k : Nat) : Prop := c.p.hi * Pm c k - c.p.hi * Pm c j < (Xj c k).lo - (Xj c j).hi
theorem BAZ {c : Cht} {sp : Nat -> Bool} {t : Nat -> Int} (h : TrC c sp t) {j k : Nat} (hjk : j <= k) (hk : k < c.ms.length) (hl : ltM c j k) : ∃ g, j <= g /\ g < k /\ sp g = true := by
 refine Classical.byContradiction λ hn => ?_
 have := h.upto hjk hk λ g a b => by
  cases hs : sp g with
  | false => rfl
  | true => exact absurd ⟨g, a, b, hs⟩ hn
 have n1 := h.note (i := j) (by omega)
 have n2 := h.note (i := k) hk
 unfold ltM at hl
 unfold Span.has at n1 n2
 omega
def Ga (c : Cht) (sp : Nat -> Bool) (g : Nat) : Span := bif decide (g + 1 < c.ms.length) then wE c sp g else ⟨0, 0⟩
theorem dN {c : Cht} {sp : Nat -> Bool} {g : Nat} (h : g + 1 < c.ms.length) : Ga c sp g = wE c sp g := by unfold Ga; rw [decide_eq_true h]; rfl
theorem BAE {c : Cht} (h : ChOk c) (sp : Nat -> Bool) (g : Nat) : (Ga c sp g).lo <= (Ga c sp g).hi := by
 by_cases q : g + 1 < c.ms.length
 ·rw [dN q]; exact (h.gap sp q).2.2
 ·unfold Ga; rw [decide_eq_false q]; exact Int.le_refl _
theorem AKZ {c : Cht} {sp : Nat -> Bool} : ∀ {i : Nat}, i < c.ms.length -> sumL (Ga c sp) i = c.p.lo * Pm c i - c.p.lo * Pm c 0
 | 0, _ => by show (0 : Int) = _; omega
 | i + 1, h => by
  have ih := AKZ (c := c) (sp := sp) (i := i) (by omega)
  show sumL (Ga c sp) i + (Ga c sp i).lo = _
  rw [ih, dN h]
  show _ + c.p.lo * (Pm c (i + 1) - Pm c i) = _
  rw [Int.mul_sub]; omega
theorem Z8 {c : Cht} (h : ChOk c) (sp : Nat -> Bool) {j : Nat} : ∀ {i : Nat}, j <= i -> i < c.ms.length -> c.p.lo * Pm c i - c.p.lo * Pm c j <= Pi (Ga c sp) i - Pi (Ga c sp) j
 | 0, hj, _ => by
  obtain rfl : j = 0 := by omega
  omega
 | i + 1, hj, hi => by
  rcases Nat.lt_or_ge j (i + 1) with q | q
  ·have ih := Z8 h sp (j := j) (i := i) (by omega) (by omega)
   have g := BAE h sp i
   rw [dN hi] at g
   have g : c.p.lo * (Pm c (i + 1) - Pm c i) <= (wE c sp i).hi := g
   rw [Int.mul_sub] at g
   have e : Pi (Ga c sp) (i + 1) = Pi (Ga c sp) i + (wE c sp i).hi := by show Pi (Ga c sp) i + (Ga c sp i).hi = _; rw [dN hi]
   rw [e]; omega
  ·obtain rfl : j = i + 1 := by omega
   omega
theorem AXI {c : Cht} (sp : Nat -> Bool) {j : Nat} : ∀ {k : Nat}, j <= k -> k < c.ms.length -> (∀ g, j <= g -> g < k -> sp g = false) -> Pi (Ga c sp) k - Pi (Ga c sp) j = c.p.hi * Pm c k - c.p.hi * Pm c j
 | 0, hj, _, _ => by
  obtain rfl : j = 0 := by omega
  omega
 | k + 1, hj, hk, hn => by
  rcases Nat.lt_or_ge j (k + 1) with q | q
  ·have ih := AXI (c := c) sp (j := j) (k := k) (by omega) (by omega) (λ g a b => hn g a (by omega))
   have e : Pi (Ga c sp) (k + 1) = Pi (Ga c sp) k + (wE c sp k).hi := by show Pi (Ga c sp) k + (Ga c sp k).hi = _; rw [dN hk]
   have e2 : (wE c sp k).hi = c.p.hi * (Pm c (k + 1) - Pm c k) := by
    show (bif sp k then (200000000 : Int) else c.p.hi * RJ c k) = _
    rw [hn k (by omega) (by omega)]; rfl
   rw [e, e2, Int.mul_sub]; omega
  ·obtain rfl : j = k + 1 := by omega
   omega
theorem ANW {c : Cht} (h : ChOk c) (sp : Nat -> Bool) {j k : Nat} (hjk : j <= k) (hk : k < c.ms.length) : Pi (Ga c sp) j <= Pi (Ga c sp) k := by
 have := Z8 h sp hjk hk
 have p := h.pl_le hjk hk
 have q : c.p.lo * Pm c j <= c.p.lo * Pm c k := Int.mul_le_mul_of_nonneg_left p (by have := h.p; omega)
 omega
theorem BBB {c : Cht} (h : ChOk c) (sp : Nat -> Bool) {j k g : Nat} (h1 : j <= g) (h2 : g < k) (hk : k < c.ms.length) (hs : sp g = true) : 200000000 <= Pi (Ga c sp) k - Pi (Ga c sp) j := by
 have a := ANW h sp h1 (show g < _ by omega)
 have b := ANW h sp (show g + 1 <= k by omega) hk
 have e : Pi (Ga c sp) (g + 1) = Pi (Ga c sp) g + (wE c sp g).hi := by show Pi (Ga c sp) g + (Ga c sp g).hi = _; rw [dN (by omega)]
 have e2 : (wE c sp g).hi = 200000000 := by
  show (bif sp g then (200000000 : Int) else c.p.hi * RJ c g) = _
  rw [hs]; rfl
 omega
theorem AXJ {c : Cht} (h : ChOk c) (j : Int) : (hasN c.ns j = true -> 0 <= (Xj c j).lo /\ (Xj c j).hi <= 10000000) /\ (hasN c.ns j = false -> Xj c j = ⟨-100000000, 100000000⟩) := by
 unfold Xj
 constructor
 ·intro hj
  rw [hj]
  have := (h.nt _ (cL hj).1).t
  show 0 <= (ntOf c.ns j).t.lo /\ (ntOf c.ns j).t.hi <= 10000000
  omega
 ·intro hj; rw [hj]; rfl
theorem BJT {c : Cht} (h : ChOk c) {sp0 : Nat -> Bool} {t0 : Nat -> Int} (ht : TrC c sp0 t0) {sp : Nat -> Bool} (hl : ∀ j k, j < k -> k < c.ms.length -> hasN c.ns j = true -> hasN c.ns k = true -> ltM c j k -> ∃ g, j <= g /\ g < k /\ sp g = true) : ∃ t, TrC c sp t := by
 have hm := h.m
 have main : ∃ t, Tr (λ i => Xj c i) (Ga c sp) (c.ms.length - 1) t := CAV (BAE h sp) λ i k j hi hk hj => by
  have hi : i < c.ms.length := by omega
  rw [AKZ hi, AKZ (show k < _ by omega)]
  have nk := AXJ h (k : Int)
  have nj := AXJ h (j : Int)
  have bk := yY h (k : Int)
  have bj := yY h (j : Int)
  unfold I6 at bk bj
  rcases Nat.lt_or_ge j k with q | q
  ·have s1 := Z8 h sp (show k <= i by omega) hi
   have main : (Xj c (k : Int)).lo <= (Xj c (j : Int)).hi + (Pi (Ga c sp) k - Pi (Ga c sp) j) := by
    have up := ANW h sp (Nat.le_of_lt q) (show k < _ by omega)
    cases ek : hasN c.ns (k : Int) with
    | false => rw [nk.2 ek]; show (-100000000 : Int) <= _; omega
    | true =>
     cases ej : hasN c.ns (j : Int) with
     | false => rw [nj.2 ej]; show _ <= (100000000 : Int) + _; have := nk.1 ek; omega
     | true =>
      have a := nk.1 ek
      have b := nj.1 ej
      by_cases hs : ∃ g, j <= g /\ g < k /\ sp g = true
      ·obtain ⟨g, g1, g2, g3⟩ := hs
       have := BBB h sp g1 g2 (show k < _ by omega) g3
       omega
      ·have e := AXI (c := c) sp (Nat.le_of_lt q) (show k < _ by omega) λ g a b => by
        cases hg : sp g with
        | false => rfl
        | true => exact absurd ⟨g, a, b, hg⟩ hs
       have : ¬ ltM c j k := λ hq => hs (hl j k q (by omega) ej ek hq)
       unfold ltM at this
       omega
   omega
  ·have s1 := Z8 h sp hj hi
   have l1 := ht.least (j := k) (k := j) q (by omega)
   have n1 := ht.note (i := k) (by omega)
   have n2 := ht.note (i := j) (by omega)
   unfold Span.has at n1 n2
   omega
 obtain ⟨t, ht⟩ := main
 exact ⟨t, ht.ext2 (λ _ _ => rfl) (λ g hg => dN (by omega))⟩
theorem Oz (c : Cht) : (DF c).length = c.ns.length := by
 have := (QQ (CV c) (idL c.ns.length)).length_eq
 unfold DF idL at *
 rw [this, rng_length]
theorem dR (c : Cht) {i : Nat} (hi : i < c.ns.length) : ∃ j : Nat, j < c.ns.length /\ gD (DF c) i = (j : Int) := by
 have h : gD (DF c) i ∈ DF c := HW (by rw [Oz]; exact hi)
 have h := ((QQ (CV c) (idL c.ns.length)).mem_iff).1 h
 obtain ⟨j, hj, e⟩ := OV h
 unfold idL at hj e
 rw [rng_length] at hj
 rw [KL _ _ _ hj] at e
 exact ⟨j, hj, e.symm⟩
theorem AWA (c : Cht) : (DF c).Nodup := by
 have h : (idL c.ns.length).Nodup := by
  unfold idL ME
  rw [List.nodup_iff_pairwise_ne, List.pairwise_map]
  exact List.Pairwise.imp (λ h => by omega) (List.pairwise_lt_range)
 exact ((QQ (CV c) (idL c.ns.length)).nodup_iff).2 h
theorem qE (c : Cht) {j : Nat} (hj : j < c.ns.length) : ∃ i, i < c.ns.length /\ gD (DF c) i = (j : Int) := by
 have h : (j : Int) ∈ idL c.ns.length := by
  have : gD (idL c.ns.length) j ∈ idL c.ns.length := HW (by unfold idL; rw [rng_length]; exact hj)
  unfold idL at this ⊢
  rwa [KL _ _ _ hj] at this
 have h := ((QQ (CV c) (idL c.ns.length)).mem_iff).2 h
 obtain ⟨i, hi, e⟩ := OV (show (j : Int) ∈ DF c from h)
 exact ⟨i, by rwa [Oz] at hi, e⟩
def mO (c : Cht) (k : Nat) : Int := miA c (gD (DF c) k)
theorem AJL {c : Cht} (h : ChOk c) {i k : Nat} (hik : i < k) (hk : k < c.ns.length) : mO c i < mO c k := by
 have s : mO c i <= mO c k := Uv (CV c) (idL c.ns.length) i k hik (by unfold idL; rw [rng_length]; omega)
 obtain ⟨a, ha, ea⟩ := dR c (show i < _ by omega)
 obtain ⟨b, hb, eb⟩ := dR c hk
 have ne : a ≠ b := λ e => by
  subst e
  have hn := AWA c
  rw [List.nodup_iff_pairwise_ne, List.pairwise_iff_getElem] at hn
  have := hn i k (by rw [Oz]; omega) (by rw [Oz]; omega) hik
  rw [<- eb] at ea
  unfold gD at ea
  rw [List.getD_eq_getElem?_getD, List.getD_eq_getElem?_getD, List.getElem?_eq_getElem (by rw [Oz]; omega), List.getElem?_eq_getElem (by rw [Oz]; omega)] at ea
  exact this ea
 have d : mO c i ≠ mO c k := by
  unfold mO miA
  rw [ea, eb]
  show (gD c.ns a).mi ≠ (gD c.ns b).mi
  rcases Nat.lt_or_gt_of_ne ne with q | q
  ·exact h.one a b q hb
  ·exact (h.one b a q ha).symm
 omega
theorem AJS {c : Cht} (h : ChOk c) {k : Nat} (hk : k < c.ns.length) : 0 <= mO c k /\ mO c k < c.ms.length := by
 obtain ⟨b, hb, eb⟩ := dR c hk
 unfold mO miA
 rw [eb]
 exact (h.nt _ (HW hb)).mi
theorem N1 {c : Cht} (h : ChOk c) {a b : Nat} (ha : a < c.ns.length) (hb : b < c.ns.length) : QT c ⟨a, b⟩ = true ↔ ltM c (gD c.ns a).mi.toNat (gD c.ns b).mi.toNat := by
 have oa := h.nt _ (HW ha)
 have ob := h.nt _ (HW hb)
 have ma := oa.mi
 have mb := ob.mi
 have ea : Xj c ((gD c.ns a).mi.toNat : Int) = (gD c.ns a).t := by
  rw [Int.toNat_of_nonneg ma.1]
  unfold Xj
  rw [Ty.2 ⟨_, HW ha, rfl⟩, h.ntOf (HW ha)]; rfl
 have eb : Xj c ((gD c.ns b).mi.toNat : Int) = (gD c.ns b).t := by
  rw [Int.toNat_of_nonneg mb.1]
  unfold Xj
  rw [Ty.2 ⟨_, HW hb, rfl⟩, h.ntOf (HW hb)]; rfl
 have pl := h.pl_in (j := (gD c.ns a).mi.toNat) (k := (gD c.ns b).mi.toNat) (by omega) (by omega)
 have ta := oa.t
 have tb := ob.t
 have hp := h.p
 have e1 : wr (Pm c (gD c.ns b).mi.toNat - Pm c (gD c.ns a).mi.toNat) = Pm c (gD c.ns b).mi.toNat - Pm c (gD c.ns a).mi.toNat := TC (by omega) (by omega)
 have e2 : wr ((gD c.ns b).t.lo - (gD c.ns a).t.hi) = (gD c.ns b).t.lo - (gD c.ns a).t.hi := TC (by omega) (by omega)
 have u1 : c.p.hi * (Pm c (gD c.ns b).mi.toNat - Pm c (gD c.ns a).mi.toNat) <= c.p.hi * 10000 := Int.mul_le_mul_of_nonneg_left pl.1 (by omega)
 have u2 : c.p.hi * (-10000) <= c.p.hi * (Pm c (gD c.ns b).mi.toNat - Pm c (gD c.ns a).mi.toNat) := Int.mul_le_mul_of_nonneg_left pl.2 (by omega)
 have e3 : wr (c.p.hi * (Pm c (gD c.ns b).mi.toNat - Pm c (gD c.ns a).mi.toNat)) = c.p.hi * (Pm c (gD c.ns b).mi.toNat - Pm c (gD c.ns a).mi.toNat) := TC (by omega) (by omega)
 have e4 : c.p.hi * (Pm c (gD c.ns b).mi.toNat - Pm c (gD c.ns a).mi.toNat) = c.p.hi * Pm c (gD c.ns b).mi.toNat - c.p.hi * Pm c (gD c.ns a).mi.toNat := Int.mul_sub _ _ _
 show decide (wr ((gD c.ns b).t.lo - (gD c.ns a).t.hi) > wr (c.p.hi * wr (Pm c (gD c.ns b).mi.toNat - Pm c (gD c.ns a).mi.toNat))) = true ↔ _
 rw [e1, e2, e3, e4, decide_eq_true_eq]
 unfold ltM
 rw [ea, eb]
def ltO (c : Cht) (i k : Nat) : Prop := ltM c (mO c i).toNat (mO c k).toNat
theorem APQ {c : Cht} (h : ChOk c) {la : Int} {i k : Nat} (hi : i < c.ns.length) (hk : k < c.ns.length) : X2 c la (gD (DF c) k) (gD (DF c) i) = true ↔ la < mO c i /\ ltO c i k := by
 obtain ⟨a, ha, ea⟩ := dR c hi
 obtain ⟨b, hb, eb⟩ := dR c hk
 unfold X2 ltO mO
 rw [ea, eb]
 by_cases q : miA c (a : Int) > la
 ·rw [decide_eq_true q]
  show QT c ⟨a, b⟩ = true ↔ _
  rw [N1 h ha hb]
  exact ⟨λ x => ⟨q, x⟩, λ x => x.2⟩
 ·rw [decide_eq_false q]
  exact ⟨λ x => (by cases x), λ x => absurd x.1 q⟩
structure FwI (c : Cht) (k : Nat) (s : FwS) : Prop where
 la : -1 <= s.la /\ s.la + 1 < c.ms.length + 1
 mem : s.la = -1 ∨ s.la ∈ s.q
 q : ∀ g ∈ s.q, (0 <= g /\ g + 1 < c.ms.length) /\ g <= s.la
 up : s.q.Pairwise (· < ·)
 nx : ∀ i, i < c.ns.length -> k <= i -> s.la < mO c i
 met : ∀ i j, i < j -> j < k -> ltO c i j -> ∃ g ∈ s.q, mO c i <= g /\ g < mO c j
 min : ∀ (sp : Nat -> Bool) (t : Nat -> Int) (z : List Int), TrC c sp t -> (∀ g : Nat, sp g = true -> (g : Int) ∈ z) -> s.q.length <= (z.filter (λ x => decide (x <= s.la))).length
theorem ARF {z : List Int} {a b x : Int} (hx : x ∈ z) (h1 : a < x) (h2 : x <= b) : (z.filter (λ y => decide (y <= a))).length + 1 <= (z.filter (λ y => decide (y <= b))).length := by
 have mono : ∀ l : List Int, (l.filter (λ y => decide (y <= a))).length <= (l.filter (λ y => decide (y <= b))).length := λ l => by
  induction l with
  | nil => exact Nat.le_refl _
  | cons y l ih =>
   rw [List.filter_cons, List.filter_cons]
   by_cases q : y <= a
   ·have : y <= b := by omega
    simp [q, this]; exact ih
   ·by_cases r : y <= b
    ·simp [q, r]; omega
    ·simp [q, r]; exact ih
 induction z with
 | nil => cases hx
 | cons y l ih =>
  rw [List.filter_cons, List.filter_cons]
  rcases List.mem_cons.1 hx with e | hx
  ·subst e
   have q : ¬ x <= a := by omega
   simp [q, h2]; exact mono l
  ·have ih := ih hx
   by_cases q : y <= a
   ·have : y <= b := by omega
    simp [q, this]; exact ih
   ·by_cases r : y <= b
    ·simp [q, r]; omega
    ·simp [q, r]; exact ih
theorem nL {c : Cht} (h : ChOk c) : ∀ k, k <= c.ns.length -> FwI c k (XA c k)
 | 0, _ => ⟨⟨Int.le_refl _, by have := h.m; show (-1 : Int) + 1 < _; omega⟩, .inl rfl, λ g hg => (by cases hg), .nil, λ i hi _ => by have := AJS h hi; show (-1 : Int) < _; omega, λ i j _ hj => absurd hj (Nat.not_lt_zero _), λ _ _ _ _ _ => Nat.zero_le _⟩
 | k + 1, hk => by
  have ih := nL h k (by omega)
  have hk' : k < c.ns.length := by omega
  have bk := AJS h hk'
  show FwI c (k + 1) (fwN c (XA c k) (gD (DF c) k) (((DF c).take k).find? (X2 c (XA c k).la (gD (DF c) k))))
  have lt : ((DF c).take k).length = k := by rw [List.length_take, Oz]; omega
  by_cases hex : ∃ j, j < k /\ X2 c (XA c k).la (gD (DF c) k) (gD (DF c) j) = true
  ·have hm : ((DF c).take k).find? (X2 c (XA c k).la (gD (DF c) k)) ≠ none := λ e => by
    obtain ⟨j, hj, hp⟩ := hex
    have := List.find?_eq_none.1 e (gD (DF c) j) (by
     rw [<- Ko (l := DF c) hj]; exact HW (by rw [lt]; exact hj))
    exact this hp
   obtain ⟨a, ea⟩ := Option.ne_none_iff_exists'.1 hm
   have am := List.mem_of_find?_eq_some ea
   have ap := List.find?_some ea
   obtain ⟨j, hj, ej⟩ := OV am
   rw [lt] at hj
   rw [Ko hj] at ej
   subst ej
   rw [ea]
   obtain ⟨p1, p2⟩ := (APQ h (show j < _ by omega) hk').1 ap
   have jk := AJL h hj hk'
   have bj := AJS h (show j < _ by omega)
   have hm40 := h.m
   have e : wr (miA c (gD (DF c) k) - 1) = mO c k - 1 := TC (by show -9223372036854775808 <= mO c k - 1; omega) (by show mO c k - 1 <= 9223372036854775807; omega)
   show FwI c (k + 1) ⟨wr (miA c (gD (DF c) k) - 1), (XA c k).q ++ [wr (miA c (gD (DF c) k) - 1)], _⟩
   rw [e]
   refine ⟨⟨by show -1 <= mO c k - 1; omega, by show mO c k - 1 + 1 < _; omega⟩, .inr (List.mem_append_right _ (List.mem_singleton.2 rfl)), λ g hg => ?_, ?_, λ i hi hki => ?_, λ i j2 hij hj2 hl => ?_, λ sp t z ht hz => ?_⟩
   ·show (0 <= g /\ g + 1 < _) /\ g <= mO c k - 1
    rcases List.mem_append.1 hg with hg | hg
    ·have := ih.q g hg; omega
    ·have := List.mem_singleton.1 hg; omega
   ·show ((XA c k).q ++ [_]).Pairwise (· < ·)
    rw [List.pairwise_append]
    refine ⟨ih.up, List.pairwise_singleton _ _, λ g hg x hx => ?_⟩
    have := ih.q g hg
    have := List.mem_singleton.1 hx
    omega
   ·have := AJL h (show k < i by omega) hi
    show mO c k - 1 < _; omega
   ·rcases Nat.lt_or_ge j2 k with q | q
    ·obtain ⟨g, g1, g2⟩ := ih.met i j2 hij q hl
     exact ⟨g, List.mem_append_left _ g1, g2⟩
    ·obtain rfl : j2 = k := by omega
     have := AJL h hij hk'
     exact ⟨mO c j2 - 1, List.mem_append_right _ (List.mem_singleton.2 rfl), by omega⟩
   ·show ((XA c k).q ++ [_]).length <= (z.filter (λ x => decide (x <= mO c k - 1))).length
    have i1 := ih.min sp t z ht hz
    obtain ⟨g, g1, g2, g3⟩ := BAZ ht (j := (mO c j).toNat) (k := (mO c k).toNat) (by omega) (by omega) p2
    have := ARF (hz g g3) (a := (XA c k).la) (b := mO c k - 1) (by omega) (by omega)
    rw [List.length_append]
    show _ + 1 <= _
    omega
  ·have en : ((DF c).take k).find? (X2 c (XA c k).la (gD (DF c) k)) = none := AOK λ t ht => by
    rw [lt] at ht
    rw [Ko ht]
    cases hp : X2 c (XA c k).la (gD (DF c) k) (gD (DF c) t) with
    | false => rfl
    | true => exact absurd ⟨t, ht, hp⟩ hex
   rw [en]
   refine ⟨ih.la, ih.mem, ih.q, ih.up, λ i hi hki => ih.nx i hi (by omega), λ i j hij hj hl => ?_, ih.min⟩
   rcases Nat.lt_or_ge j k with q | q
   ·exact ih.met i j hij q hl
   ·obtain rfl : j = k := by omega
    have no : ¬ ((XA c j).la < mO c i /\ ltO c i j) := λ x => hex ⟨i, hij, (APQ h (by omega) hk').2 x⟩
    have b := AJS h (show i < _ by omega)
    have nx := ih.nx j hk' (Nat.le_refl _)
    have : ¬ (XA c j).la < mO c i := λ x => no ⟨x, hl⟩
    rcases ih.mem with m | m
    ·omega
    ·exact ⟨_, m, by omega, nx⟩
theorem BKI {c : Cht} (h : ChOk c) : V6 ⟨c, (TT c).q⟩ = true := by
 have I := nL h c.ns.length (Nat.le_refl _)
 exact (AXN (a := ⟨c, (TT c).q⟩) h.m).2 ⟨λ g hg => (I.q g hg).1, I.up⟩
theorem AUV {c : Cht} (h : ChOk c) {sp0 : Nat -> Bool} {t0 : Nat -> Int} (ht : TrC c sp0 t0) : ∃ t, TrC c (KB ⟨c, (TT c).q⟩).sp t := by
 have I := nL h c.ns.length (Nat.le_refl _)
 refine BJT h ht λ j k hjk hk hj hk2 hl => ?_
 obtain ⟨n1, m1, e1⟩ := Ty.1 hj
 obtain ⟨n2, m2, e2⟩ := Ty.1 hk2
 obtain ⟨a, ha, ea⟩ := OV m1
 obtain ⟨b, hb, eb⟩ := OV m2
 obtain ⟨i, hi, ei⟩ := qE c ha
 obtain ⟨i2, hi2, ei2⟩ := qE c hb
 have o1 : mO c i = j := by
  unfold mO miA; rw [ei]; show (gD c.ns a).mi = j; rw [ea]; exact e1
 have o2 : mO c i2 = k := by
  unfold mO miA; rw [ei2]; show (gD c.ns b).mi = k; rw [eb]; exact e2
 have lt : i < i2 := by
  rcases Nat.lt_trichotomy i i2 with q | q | q
  ·exact q
  ·subst q; omega
  ·have := AJL h q hi; omega
 obtain ⟨g, g1, g2, g3⟩ := I.met i i2 lt hi2 (by
  unfold ltO; rw [o1, o2]; exact hl)
 have gb := (I.q g g1).1
 refine ⟨g.toNat, by omega, by omega, ?_⟩
 rw [ALY (a := ⟨c, (TT c).q⟩) h.m (BKI h)]
 rw [Int.toNat_of_nonneg gb.1]; exact g1
end Go.Bal
