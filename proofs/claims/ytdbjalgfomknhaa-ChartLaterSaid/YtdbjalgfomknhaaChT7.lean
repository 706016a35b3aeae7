/- Package chart: the fewest stops are enough, and no fewer are (no program in sight). -/
import Derived.Test.YtdbjalgfomknhaaChT5
import Derived.Test.YtdbjalgfomknhaaChK
import Derived.Test.YtdbjalgfomknhaaChT6
set_option linter.unusedVariables false
set_option linter.unusedSimpArgs false
namespace Go.Bal
open Go Go.Sym Go.Proofs
theorem CRV {l s : Nat -> Span} (hs : ∀ g, (s g).lo <= (s g).hi) : ∀ (n : Nat), (∀ i, i <= n -> (fw l s i).lo <= (fw l s i).hi) -> ∀ y, (fw l s n).has y -> ∃ t, Tr l s n t /\ t n = y
 | 0, _, y, hy => ⟨λ _ => y, ⟨λ i hi => (Nat.le_zero.1 hi) ▸ hy, λ g hg => absurd hg (Nat.not_lt_zero _)⟩, rfl⟩
 | n + 1, hne, y, hy => by
  have h1 := hs n
  have h2 := hne n (by omega)
  have h5 := (NE.1 hy).2
  obtain ⟨t, ht, e⟩ := CRV hs n (λ i hi => hne i (by omega)) (AY (fw l s n).lo (y - (s n).hi)) (by
   generalize fw l s n = F at *
   unfold Span.has AY at *; simp only at h5 ⊢; split <;> omega)
  refine ⟨_, ht.ext (NE.1 hy).1 ?_, by simp⟩
  rw [e]
  generalize fw l s n = F at *
  unfold Span.has AY at *; simp only at h5 ⊢; split <;> omega
def sumL (s : Nat -> Span) : Nat -> Int
 | 0 => 0
 | g + 1 => sumL s g + (s g).lo
def OQ (s : Nat -> Span) : Nat -> Int
 | 0 => 0
 | g + 1 => OQ s g + (s g).hi
theorem COV (a b : Int) : AY a b = a ∨ AY a b = b := by unfold AY; split <;> simp
theorem COL (a b : Int) : DX a b = a ∨ DX a b = b := by unfold DX; split <;> simp
theorem CPZ (l s : Nat -> Span) : ∀ i, ∃ k, k <= i /\ (fw l s i).lo = (l k).lo - sumL s k + sumL s i
 | 0 => ⟨0, Nat.le_refl _, by show (l 0).lo = _; omega⟩
 | i + 1 => by
  obtain ⟨k, hk, e⟩ := CPZ l s i
  rcases COV (l (i + 1)).lo ((fw l s i).lo + (s i).lo) with h | h
  ·exact ⟨i + 1, Nat.le_refl _, by show AY _ _ = _; rw [h]; omega⟩
  ·refine ⟨k, by omega, ?_⟩
   have e2 : sumL s (i + 1) = sumL s i + (s i).lo := rfl
   show AY (l (i + 1)).lo ((fw l s i).lo + (s i).lo) = _
   rw [h, e2, e]; omega
theorem CQR (l s : Nat -> Span) : ∀ i, ∃ k, k <= i /\ (fw l s i).hi = (l k).hi - OQ s k + OQ s i
 | 0 => ⟨0, Nat.le_refl _, by show (l 0).hi = _; omega⟩
 | i + 1 => by
  obtain ⟨k, hk, e⟩ := CQR l s i
  rcases COL (l (i + 1)).hi ((fw l s i).hi + (s i).hi) with h | h
  ·exact ⟨i + 1, Nat.le_refl _, by show DX _ _ = _; rw [h]; omega⟩
  ·refine ⟨k, by omega, ?_⟩
   have e2 : OQ s (i + 1) = OQ s i + (s i).hi := rfl
   show DX (l (i + 1)).hi ((fw l s i).hi + (s i).hi) = _
   rw [h, e2, e]; omega
theorem CYQ {l s : Nat -> Span} {n : Nat} (hs : ∀ g, (s g).lo <= (s g).hi) (h : ∀ i k j, i <= n -> k <= i -> j <= i -> (l k).lo - sumL s k + sumL s i <= (l j).hi - OQ s j + OQ s i) : ∃ t, Tr l s n t := by
 have hne : ∀ i, i <= n -> (fw l s i).lo <= (fw l s i).hi := λ i hi => by
  obtain ⟨k, k1, k2⟩ := CPZ l s i
  obtain ⟨j, j1, j2⟩ := CQR l s i
  rw [k2, j2]; exact h i k j hi k1 j1
 obtain ⟨t, ht, _⟩ := CRV hs n hne (fw l s n).lo ⟨Int.le_refl _, hne n (Nat.le_refl n)⟩
 exact ⟨t, ht⟩
def NG (c : Cht) (i : Nat) : Int := (gD c.ms i).pl
theorem ChOk.pl_le {c : Cht} (h : ChOk c) {j k : Nat} (hjk : j <= k) (hk : k < c.ms.length) : NG c j <= NG c k := by
 induction k with
 | zero =>
  obtain rfl : j = 0 := by omega
  exact Int.le_refl _
 | succ k ih =>
  rcases Nat.lt_or_ge j (k + 1) with q | q
  ·have := ih (by omega) (by omega)
   have u := h.up k hk
   unfold NG at *; omega
  ·obtain rfl : j = k + 1 := by omega
   exact Int.le_refl _
theorem ChOk.pl_in {c : Cht} (h : ChOk c) {j k : Nat} (hj : j < c.ms.length) (hk : k < c.ms.length) : NG c k - NG c j <= 10000 /\ -10000 <= NG c k - NG c j := by
 have a := (h.mks j hj).1
 have b := (h.mks k hk).1
 unfold NG; omega
theorem TrC.upto {c : Cht} {sp : Nat -> Bool} {t : Nat -> Int} (h : TrC c sp t) {j : Nat} : ∀ {k : Nat}, j <= k -> k < c.ms.length -> (∀ g, j <= g -> g < k -> sp g = false) -> t k - t j <= c.p.hi * NG c k - c.p.hi * NG c j
 | 0, hj, _, _ => by
  obtain rfl : j = 0 := by omega
  omega
 | k + 1, hj, hk, hn => by
  rcases Nat.lt_or_ge j (k + 1) with q | q
  ·have ih := h.upto (j := j) (k := k) (by omega) (by omega) (λ g a b => hn g a (by omega))
   have g := (h.gap k (by omega)).2
   have g : t (k + 1) - t k <= bif sp k then 200000000 else c.p.hi * (NG c (k + 1) - NG c k) := g
   rw [hn k (by omega) (by omega)] at g
   have g : t (k + 1) - t k <= c.p.hi * (NG c (k + 1) - NG c k) := g
   rw [Int.mul_sub] at g
   omega
  ·obtain rfl : j = k + 1 := by omega
   omega
theorem TrC.least {c : Cht} {sp : Nat -> Bool} {t : Nat -> Int} (h : TrC c sp t) {j : Nat} : ∀ {k : Nat}, j <= k -> k < c.ms.length -> c.p.lo * NG c k - c.p.lo * NG c j <= t k - t j
 | 0, hj, _ => by
  obtain rfl : j = 0 := by omega
  omega
 | k + 1, hj, hk => by
  rcases Nat.lt_or_ge j (k + 1) with q | q
  ·have ih := h.least (j := j) (k := k) (by omega) (by omega)
   have g := (h.gap k (by omega)).1
   have g : c.p.lo * (NG c (k + 1) - NG c k) <= t (k + 1) - t k := g
   rw [Int.mul_sub] at g
   omega
  ·obtain rfl : j = k + 1 := by omega
   omega
def ltM (c : Cht) (j k : Nat) : Prop := c.p.hi * NG c k - c.p.hi * NG c j < (IN c k).lo - (IN c j).hi
theorem CEX {c : Cht} {sp : Nat -> Bool} {t : Nat -> Int} (h : TrC c sp t) {j k : Nat} (hjk : j <= k) (hk : k < c.ms.length) (hl : ltM c j k) : ∃ g, j <= g /\ g < k /\ sp g = true := by
 refine Classical.byContradiction λ hn => ?_
 have := h.upto hjk hk λ g a b => by
  cases hs : sp g with
  | false => rfl
  | true => exact absurd ⟨g, a, b, hs⟩ hn
 have n1 := h.note (i := j) (by omega)
 have n2 := h.note (i := k) hk
 unfold ltM at hl
 unfold Span.has at n1 n2
 omega
def mI (c : Cht) (sp : Nat -> Bool) (g : Nat) : Span := bif decide (g + 1 < c.ms.length) then TG c sp g else ⟨0, 0⟩
theorem nM {c : Cht} {sp : Nat -> Bool} {g : Nat} (h : g + 1 < c.ms.length) : mI c sp g = TG c sp g := by unfold mI; rw [decide_eq_true h]; rfl
theorem CJY {c : Cht} (h : ChOk c) (sp : Nat -> Bool) (g : Nat) : (mI c sp g).lo <= (mI c sp g).hi := by
 by_cases q : g + 1 < c.ms.length
 ·rw [nM q]; exact (h.gap sp q).2.2
 ·unfold mI; rw [decide_eq_false q]; exact Int.le_refl _
theorem BRZ {c : Cht} {sp : Nat -> Bool} : ∀ {i : Nat}, i < c.ms.length -> sumL (mI c sp) i = c.p.lo * NG c i - c.p.lo * NG c 0
 | 0, _ => by show (0 : Int) = _; omega
 | i + 1, h => by
  have ih := BRZ (c := c) (sp := sp) (i := i) (by omega)
  show sumL (mI c sp) i + (mI c sp i).lo = _
  rw [ih, nM h]
  show _ + c.p.lo * (NG c (i + 1) - NG c i) = _
  rw [Int.mul_sub]; omega
theorem APO {c : Cht} (h : ChOk c) (sp : Nat -> Bool) {j : Nat} : ∀ {i : Nat}, j <= i -> i < c.ms.length -> c.p.lo * NG c i - c.p.lo * NG c j <= OQ (mI c sp) i - OQ (mI c sp) j
 | 0, hj, _ => by
  obtain rfl : j = 0 := by omega
  omega
 | i + 1, hj, hi => by
  rcases Nat.lt_or_ge j (i + 1) with q | q
  ·have ih := APO h sp (j := j) (i := i) (by omega) (by omega)
   have g := CJY h sp i
   rw [nM hi] at g
   have g : c.p.lo * (NG c (i + 1) - NG c i) <= (TG c sp i).hi := g
   rw [Int.mul_sub] at g
   have e : OQ (mI c sp) (i + 1) = OQ (mI c sp) i + (TG c sp i).hi := by show OQ (mI c sp) i + (mI c sp i).hi = _; rw [nM hi]
   rw [e]; omega
  ·obtain rfl : j = i + 1 := by omega
   omega
theorem CDP {c : Cht} (sp : Nat -> Bool) {j : Nat} : ∀ {k : Nat}, j <= k -> k < c.ms.length -> (∀ g, j <= g -> g < k -> sp g = false) -> OQ (mI c sp) k - OQ (mI c sp) j = c.p.hi * NG c k - c.p.hi * NG c j
 | 0, hj, _, _ => by
  obtain rfl : j = 0 := by omega
  omega
 | k + 1, hj, hk, hn => by
  rcases Nat.lt_or_ge j (k + 1) with q | q
  ·have ih := CDP (c := c) sp (j := j) (k := k) (by omega) (by omega) (λ g a b => hn g a (by omega))
   have e : OQ (mI c sp) (k + 1) = OQ (mI c sp) k + (TG c sp k).hi := by show OQ (mI c sp) k + (mI c sp k).hi = _; rw [nM hk]
   have e2 : (TG c sp k).hi = c.p.hi * (NG c (k + 1) - NG c k) := by
    show (bif sp k then (200000000 : Int) else c.p.hi * KJ c k) = _
    rw [hn k (by omega) (by omega)]; rfl
   rw [e, e2, Int.mul_sub]; omega
  ·obtain rfl : j = k + 1 := by omega
   omega
theorem BKL {c : Cht} (h : ChOk c) (sp : Nat -> Bool) {j k : Nat} (hjk : j <= k) (hk : k < c.ms.length) : OQ (mI c sp) j <= OQ (mI c sp) k := by
 have := APO h sp hjk hk
 have p := h.pl_le hjk hk
 have q : c.p.lo * NG c j <= c.p.lo * NG c k := Int.mul_le_mul_of_nonneg_left p (by have := h.p; omega)
 omega
theorem CEF {c : Cht} (h : ChOk c) (sp : Nat -> Bool) {j k g : Nat} (h1 : j <= g) (h2 : g < k) (hk : k < c.ms.length) (hs : sp g = true) : 200000000 <= OQ (mI c sp) k - OQ (mI c sp) j := by
 have a := BKL h sp h1 (show g < _ by omega)
 have b := BKL h sp (show g + 1 <= k by omega) hk
 have e : OQ (mI c sp) (g + 1) = OQ (mI c sp) g + (TG c sp g).hi := by show OQ (mI c sp) g + (mI c sp g).hi = _; rw [nM (by omega)]
 have e2 : (TG c sp g).hi = 200000000 := by
  show (bif sp g then (200000000 : Int) else c.p.hi * KJ c g) = _
  rw [hs]; rfl
 omega
theorem I0 {c : Cht} (h : ChOk c) (j : Int) : (hasN c.ns j = true -> 0 <= (IN c j).lo /\ (IN c j).hi <= 10000000) /\ (hasN c.ns j = false -> IN c j = ⟨-100000000, 100000000⟩) := by
 unfold IN
 constructor
 ·intro hj
  rw [hj]
  have := (h.nt _ (SD hj).1).t
  show 0 <= (ntOf c.ns j).t.lo /\ (ntOf c.ns j).t.hi <= 10000000
  omega
 ·intro hj; rw [hj]; rfl
theorem CKB {c : Cht} (h : ChOk c) {sp0 : Nat -> Bool} {t0 : Nat -> Int} (ht : TrC c sp0 t0) {sp : Nat -> Bool} (hl : ∀ j k, j < k -> k < c.ms.length -> hasN c.ns j = true -> hasN c.ns k = true -> ltM c j k -> ∃ g, j <= g /\ g < k /\ sp g = true) : ∃ t, TrC c sp t := by
 have hm := h.m
 have main : ∃ t, Tr (λ i => IN c i) (mI c sp) (c.ms.length - 1) t := CYQ (CJY h sp) λ i k j hi hk hj => by
  have hi : i < c.ms.length := by omega
  rw [BRZ hi, BRZ (show k < _ by omega)]
  have nk := I0 h (k : Int)
  have nj := I0 h (j : Int)
  have bk := C7 h (k : Int)
  have bj := C7 h (j : Int)
  unfold YM at bk bj
  rcases Nat.lt_or_ge j k with q | q
  ·have s1 := APO h sp (show k <= i by omega) hi
   have main : (IN c (k : Int)).lo <= (IN c (j : Int)).hi + (OQ (mI c sp) k - OQ (mI c sp) j) := by
    have up := BKL h sp (Nat.le_of_lt q) (show k < _ by omega)
    cases ek : hasN c.ns (k : Int) with
    | false => rw [nk.2 ek]; show (-100000000 : Int) <= _; omega
    | true =>
     cases ej : hasN c.ns (j : Int) with
     | false => rw [nj.2 ej]; show _ <= (100000000 : Int) + _; have := nk.1 ek; omega
     | true =>
      have a := nk.1 ek
      have b := nj.1 ej
      by_cases hs : ∃ g, j <= g /\ g < k /\ sp g = true
      ·obtain ⟨g, g1, g2, g3⟩ := hs
       have := CEF h sp g1 g2 (show k < _ by omega) g3
       omega
      ·have e := CDP (c := c) sp (Nat.le_of_lt q) (show k < _ by omega) λ g a b => by
        cases hg : sp g with
        | false => rfl
        | true => exact absurd ⟨g, a, b, hg⟩ hs
       have : ¬ ltM c j k := λ hq => hs (hl j k q (by omega) ej ek hq)
       unfold ltM at this
       omega
   omega
  ·have s1 := APO h sp hj hi
   have l1 := ht.least (j := k) (k := j) q (by omega)
   have n1 := ht.note (i := k) (by omega)
   have n2 := ht.note (i := j) (by omega)
   unfold Span.has at n1 n2
   omega
 obtain ⟨t, ht⟩ := main
 exact ⟨t, ht.ext2 (λ _ _ => rfl) (λ g hg => nM (by omega))⟩
theorem OT (c : Cht) : (AR c).length = c.ns.length := by
 have := (Ts (GK c) (idL c.ns.length)).length_eq
 unfold AR idL at *
 rw [this, rng_length]
theorem Gr (c : Cht) {i : Nat} (hi : i < c.ns.length) : ∃ j : Nat, j < c.ns.length /\ gD (AR c) i = (j : Int) := by
 have h : gD (AR c) i ∈ AR c := CS (by rw [OT]; exact hi)
 have h := ((Ts (GK c) (idL c.ns.length)).mem_iff).1 h
 obtain ⟨j, hj, e⟩ := IQ h
 unfold idL at hj e
 rw [rng_length] at hj
 rw [BK _ _ _ hj] at e
 exact ⟨j, hj, e.symm⟩
theorem BYZ (c : Cht) : (AR c).Nodup := by
 have h : (idL c.ns.length).Nodup := by
  unfold idL AE
  rw [List.nodup_iff_pairwise_ne, List.pairwise_map]
  exact List.Pairwise.imp (λ h => by omega) (List.pairwise_lt_range)
 exact ((Ts (GK c) (idL c.ns.length)).nodup_iff).2 h
theorem BJL (c : Cht) {j : Nat} (hj : j < c.ns.length) : ∃ i, i < c.ns.length /\ gD (AR c) i = (j : Int) := by
 have h : (j : Int) ∈ idL c.ns.length := by
  have : gD (idL c.ns.length) j ∈ idL c.ns.length := CS (by unfold idL; rw [rng_length]; exact hj)
  unfold idL at this ⊢
  rwa [BK _ _ _ hj] at this
 have h := ((Ts (GK c) (idL c.ns.length)).mem_iff).2 h
 obtain ⟨i, hi, e⟩ := IQ (show (j : Int) ∈ AR c from h)
 exact ⟨i, by rwa [OT] at hi, e⟩
def mO (c : Cht) (k : Nat) : Int := miA c (gD (AR c) k)
theorem CDO {c : Cht} (h : ChOk c) {i k : Nat} (hik : i < k) (hk : k < c.ns.length) : mO c i < mO c k := by
 have s : mO c i <= mO c k := CAE (GK c) (idL c.ns.length) i k hik (by unfold idL; rw [rng_length]; omega)
 obtain ⟨a, ha, ea⟩ := Gr c (show i < _ by omega)
 obtain ⟨b, hb, eb⟩ := Gr c hk
 have ne : a ≠ b := λ e => by
  subst e
  have hn := BYZ c
  rw [List.nodup_iff_pairwise_ne, List.pairwise_iff_getElem] at hn
  have := hn i k (by rw [OT]; omega) (by rw [OT]; omega) hik
  rw [<- eb] at ea
  unfold gD at ea
  rw [List.getD_eq_getElem?_getD, List.getD_eq_getElem?_getD, List.getElem?_eq_getElem (by rw [OT]; omega), List.getElem?_eq_getElem (by rw [OT]; omega)] at ea
  exact this ea
 have d : mO c i ≠ mO c k := by
  unfold mO miA
  rw [ea, eb]
  show (gD c.ns a).mi ≠ (gD c.ns b).mi
  rcases Nat.lt_or_gt_of_ne ne with q | q
  ·exact h.one a b q hb
  ·exact (h.one b a q ha).symm
 omega
theorem CBI {c : Cht} (h : ChOk c) {k : Nat} (hk : k < c.ns.length) : 0 <= mO c k /\ mO c k < c.ms.length := by
 obtain ⟨b, hb, eb⟩ := Gr c hk
 unfold mO miA
 rw [eb]
 exact (h.nt _ (CS hb)).mi
theorem CEA {c : Cht} (h : ChOk c) {a b : Nat} (ha : a < c.ns.length) (hb : b < c.ns.length) : KT c ⟨a, b⟩ = true ↔ ltM c (gD c.ns a).mi.toNat (gD c.ns b).mi.toNat := by
 have oa := h.nt _ (CS ha)
 have ob := h.nt _ (CS hb)
 have ma := oa.mi
 have mb := ob.mi
 have ea : IN c ((gD c.ns a).mi.toNat : Int) = (gD c.ns a).t := by
  rw [Int.toNat_of_nonneg ma.1]
  unfold IN
  rw [Ad.2 ⟨_, CS ha, rfl⟩, h.ntOf (CS ha)]; rfl
 have eb : IN c ((gD c.ns b).mi.toNat : Int) = (gD c.ns b).t := by
  rw [Int.toNat_of_nonneg mb.1]
  unfold IN
  rw [Ad.2 ⟨_, CS hb, rfl⟩, h.ntOf (CS hb)]; rfl
 have pl := h.pl_in (j := (gD c.ns a).mi.toNat) (k := (gD c.ns b).mi.toNat) (by omega) (by omega)
 have ta := oa.t
 have tb := ob.t
 have hp := h.p
 have e1 : wr (NG c (gD c.ns b).mi.toNat - NG c (gD c.ns a).mi.toNat) = NG c (gD c.ns b).mi.toNat - NG c (gD c.ns a).mi.toNat := CP (by omega) (by omega)
 have e2 : wr ((gD c.ns b).t.lo - (gD c.ns a).t.hi) = (gD c.ns b).t.lo - (gD c.ns a).t.hi := CP (by omega) (by omega)
 have u1 : c.p.hi * (NG c (gD c.ns b).mi.toNat - NG c (gD c.ns a).mi.toNat) <= c.p.hi * 10000 := Int.mul_le_mul_of_nonneg_left pl.1 (by omega)
 have u2 : c.p.hi * (-10000) <= c.p.hi * (NG c (gD c.ns b).mi.toNat - NG c (gD c.ns a).mi.toNat) := Int.mul_le_mul_of_nonneg_left pl.2 (by omega)
 have e3 : wr (c.p.hi * (NG c (gD c.ns b).mi.toNat - NG c (gD c.ns a).mi.toNat)) = c.p.hi * (NG c (gD c.ns b).mi.toNat - NG c (gD c.ns a).mi.toNat) := CP (by omega) (by omega)
 have e4 : c.p.hi * (NG c (gD c.ns b).mi.toNat - NG c (gD c.ns a).mi.toNat) = c.p.hi * NG c (gD c.ns b).mi.toNat - c.p.hi * NG c (gD c.ns a).mi.toNat := Int.mul_sub _ _ _
 show decide (wr ((gD c.ns b).t.lo - (gD c.ns a).t.hi) > wr (c.p.hi * wr (NG c (gD c.ns b).mi.toNat - NG c (gD c.ns a).mi.toNat))) = true ↔ _
 rw [e1, e2, e3, e4, decide_eq_true_eq]
 unfold ltM
 rw [ea, eb]
def ltO (c : Cht) (i k : Nat) : Prop := ltM c (mO c i).toNat (mO c k).toNat
theorem CAV {c : Cht} (h : ChOk c) {la : Int} {i k : Nat} (hi : i < c.ns.length) (hk : k < c.ns.length) : fwP c la (gD (AR c) k) (gD (AR c) i) = true ↔ la < mO c i /\ ltO c i k := by
 obtain ⟨a, ha, ea⟩ := Gr c hi
 obtain ⟨b, hb, eb⟩ := Gr c hk
 unfold fwP ltO mO
 rw [ea, eb]
 by_cases q : miA c (a : Int) > la
 ·rw [decide_eq_true q]
  show KT c ⟨a, b⟩ = true ↔ _
  rw [CEA h ha hb]
  exact ⟨λ x => ⟨q, x⟩, λ x => x.2⟩
 ·rw [decide_eq_false q]
  exact ⟨λ x => (by cases x), λ x => absurd x.1 q⟩
structure FwI (c : Cht) (k : Nat) (s : FwS) : Prop where
 la : -1 <= s.la /\ s.la + 1 < c.ms.length + 1
 mem : s.la = -1 ∨ s.la ∈ s.q
 q : ∀ g ∈ s.q, (0 <= g /\ g + 1 < c.ms.length) /\ g <= s.la
 up : s.q.Pairwise (· < ·)
 nx : ∀ i, i < c.ns.length -> k <= i -> s.la < mO c i
 met : ∀ i j, i < j -> j < k -> ltO c i j -> ∃ g ∈ s.q, mO c i <= g /\ g < mO c j
 min : ∀ (sp : Nat -> Bool) (t : Nat -> Int) (z : List Int), TrC c sp t -> (∀ g : Nat, sp g = true -> (g : Int) ∈ z) -> s.q.length <= (z.filter (λ x => decide (x <= s.la))).length
theorem BUJ {z : List Int} {a b x : Int} (hx : x ∈ z) (h1 : a < x) (h2 : x <= b) : (z.filter (λ y => decide (y <= a))).length + 1 <= (z.filter (λ y => decide (y <= b))).length := by
 have mono : ∀ l : List Int, (l.filter (λ y => decide (y <= a))).length <= (l.filter (λ y => decide (y <= b))).length := λ l => by
  induction l with
  | nil => exact Nat.le_refl _
  | cons y l ih =>
   rw [List.filter_cons, List.filter_cons]
   by_cases q : y <= a
   ·have : y <= b := by omega
    simp [q, this]; exact ih
   ·by_cases r : y <= b
    ·simp [q, r]; omega
    ·simp [q, r]; exact ih
 induction z with
 | nil => cases hx
 | cons y l ih =>
  rw [List.filter_cons, List.filter_cons]
  rcases List.mem_cons.1 hx with e | hx
  ·subst e
   have q : ¬ x <= a := by omega
   simp [q, h2]; exact mono l
  ·have ih := ih hx
   by_cases q : y <= a
   ·have : y <= b := by omega
    simp [q, this]; exact ih
   ·by_cases r : y <= b
    ·simp [q, r]; omega
    ·simp [q, r]; exact ih
theorem BKH {c : Cht} (h : ChOk c) : ∀ k, k <= c.ns.length -> FwI c k (BY c k)
 | 0, _ => ⟨⟨Int.le_refl _, by have := h.m; show (-1 : Int) + 1 < _; omega⟩, .inl rfl, λ g hg => (by cases hg), .nil, λ i hi _ => by have := CBI h hi; show (-1 : Int) < _; omega, λ i j _ hj => absurd hj (Nat.not_lt_zero _), λ _ _ _ _ _ => Nat.zero_le _⟩
 | k + 1, hk => by
  have ih := BKH h k (by omega)
  have hk' : k < c.ns.length := by omega
  have bk := CBI h hk'
  show FwI c (k + 1) (fwN c (BY c k) (gD (AR c) k) (((AR c).take k).find? (fwP c (BY c k).la (gD (AR c) k))))
  have lt : ((AR c).take k).length = k := by rw [List.length_take, OT]; omega
  by_cases hex : ∃ j, j < k /\ fwP c (BY c k).la (gD (AR c) k) (gD (AR c) j) = true
  ·have hm : ((AR c).take k).find? (fwP c (BY c k).la (gD (AR c) k)) ≠ none := λ e => by
    obtain ⟨j, hj, hp⟩ := hex
    have := List.find?_eq_none.1 e (gD (AR c) j) (by
     rw [<- PQ (l := AR c) hj]; exact CS (by rw [lt]; exact hj))
    exact this hp
   obtain ⟨a, ea⟩ := Option.ne_none_iff_exists'.1 hm
   have am := List.mem_of_find?_eq_some ea
   have ap := List.find?_some ea
   obtain ⟨j, hj, ej⟩ := IQ am
   rw [lt] at hj
   rw [PQ hj] at ej
   subst ej
   rw [ea]
   obtain ⟨p1, p2⟩ := (CAV h (show j < _ by omega) hk').1 ap
   have jk := CDO h hj hk'
   have bj := CBI h (show j < _ by omega)
   have hm40 := h.m
   have e : wr (miA c (gD (AR c) k) - 1) = mO c k - 1 := CP (by show -9223372036854775808 <= mO c k - 1; omega) (by show mO c k - 1 <= 9223372036854775807; omega)
   show FwI c (k + 1) ⟨wr (miA c (gD (AR c) k) - 1), (BY c k).q ++ [wr (miA c (gD (AR c) k) - 1)], _⟩
   rw [e]
   refine ⟨⟨by show -1 <= mO c k - 1; omega, by show mO c k - 1 + 1 < _; omega⟩, .inr (List.mem_append_right _ (List.mem_singleton.2 rfl)), λ g hg => ?_, ?_, λ i hi hki => ?_, λ i j2 hij hj2 hl => ?_, λ sp t z ht hz => ?_⟩
   ·show (0 <= g /\ g + 1 < _) /\ g <= mO c k - 1
    rcases List.mem_append.1 hg with hg | hg
    ·have := ih.q g hg; omega
    ·have := List.mem_singleton.1 hg; omega
   ·show ((BY c k).q ++ [_]).Pairwise (· < ·)
    rw [List.pairwise_append]
    refine ⟨ih.up, List.pairwise_singleton _ _, λ g hg x hx => ?_⟩
    have := ih.q g hg
    have := List.mem_singleton.1 hx
    omega
   ·have := CDO h (show k < i by omega) hi
    show mO c k - 1 < _; omega
   ·rcases Nat.lt_or_ge j2 k with q | q
    ·obtain ⟨g, g1, g2⟩ := ih.met i j2 hij q hl
     exact ⟨g, List.mem_append_left _ g1, g2⟩
    ·obtain rfl : j2 = k := by omega
     have := CDO h hij hk'
     exact ⟨mO c j2 - 1, List.mem_append_right _ (List.mem_singleton.2 rfl), by omega⟩
   ·show ((BY c k).q ++ [_]).length <= (z.filter (λ x => decide (x <= mO c k - 1))).length
    have i1 := ih.min sp t z ht hz
    obtain ⟨g, g1, g2, g3⟩ := CEX ht (j := (mO c j).toNat) (k := (mO c k).toNat) (by omega) (by omega) p2
    have := BUJ (hz g g3) (a := (BY c k).la) (b := mO c k - 1) (by omega) (by omega)
    rw [List.length_append]
    show _ + 1 <= _
    omega
  ·have en : ((AR c).take k).find? (fwP c (BY c k).la (gD (AR c) k)) = none := BKR λ t ht => by
    rw [lt] at ht
    rw [PQ ht]
    cases hp : fwP c (BY c k).la (gD (AR c) k) (gD (AR c) t) with
    | false => rfl
    | true => exact absurd ⟨t, ht, hp⟩ hex
   rw [en]
   refine ⟨ih.la, ih.mem, ih.q, ih.up, λ i hi hki => ih.nx i hi (by omega), λ i j hij hj hl => ?_, ih.min⟩
   rcases Nat.lt_or_ge j k with q | q
   ·exact ih.met i j hij q hl
   ·obtain rfl : j = k := by omega
    have no : ¬ ((BY c j).la < mO c i /\ ltO c i j) := λ x => hex ⟨i, hij, (CAV h (by omega) hk').2 x⟩
    have b := CBI h (show i < _ by omega)
    have nx := ih.nx j hk' (Nat.le_refl _)
    have : ¬ (BY c j).la < mO c i := λ x => no ⟨x, hl⟩
    rcases ih.mem with m | m
    ·omega
    ·exact ⟨_, m, by omega, nx⟩
theorem CUV {c : Cht} (h : ChOk c) : okZ ⟨c, (Dg c).q⟩ = true := by
 have I := BKH h c.ns.length (Nat.le_refl _)
 exact (CBM (a := ⟨c, (Dg c).q⟩) h.m).2 ⟨λ g hg => (I.q g hg).1, I.up⟩
theorem BYQ {c : Cht} (h : ChOk c) {sp0 : Nat -> Bool} {t0 : Nat -> Int} (ht : TrC c sp0 t0) : ∃ t, TrC c (AH ⟨c, (Dg c).q⟩).sp t := by
 have I := BKH h c.ns.length (Nat.le_refl _)
 refine CKB h ht λ j k hjk hk hj hk2 hl => ?_
 obtain ⟨n1, m1, e1⟩ := Ad.1 hj
 obtain ⟨n2, m2, e2⟩ := Ad.1 hk2
 obtain ⟨a, ha, ea⟩ := IQ m1
 obtain ⟨b, hb, eb⟩ := IQ m2
 obtain ⟨i, hi, ei⟩ := BJL c ha
 obtain ⟨i2, hi2, ei2⟩ := BJL c hb
 have o1 : mO c i = j := by
  unfold mO miA; rw [ei]; show (gD c.ns a).mi = j; rw [ea]; exact e1
 have o2 : mO c i2 = k := by
  unfold mO miA; rw [ei2]; show (gD c.ns b).mi = k; rw [eb]; exact e2
 have lt : i < i2 := by
  rcases Nat.lt_trichotomy i i2 with q | q | q
  ·exact q
  ·subst q; omega
  ·have := CDO h q hi; omega
 obtain ⟨g, g1, g2, g3⟩ := I.met i i2 lt hi2 (by
  unfold ltO; rw [o1, o2]; exact hl)
 have gb := (I.q g g1).1
 refine ⟨g.toNat, by omega, by omega, ?_⟩
 rw [CAR (a := ⟨c, (Dg c).q⟩) h.m (CUV h)]
 rw [Int.toNat_of_nonneg gb.1]; exact g1
theorem BLM {c : Cht} (h : ChOk c) (hs : stgOk c = true) {sp0 : Nat -> Bool} {t0 : Nat -> Int} (ht : TrC c sp0 t0) : (DA c).e = 0 /\ (DA c).q = (Dg c).q /\ (DA c).r = (Dg c).r := by
 have k : (AU (fwW c)).2 = true := (Cw (w := fwW c) h).2 ⟨hs, BYQ h ht⟩
 have e : DA c = ⟨(Dg c).q, (Dg c).r, 0⟩ := by
  unfold DA tY; rw [yP.2 h, k]; rfl
 rw [e]; exact ⟨rfl, rfl, rfl⟩
end Go.Bal
