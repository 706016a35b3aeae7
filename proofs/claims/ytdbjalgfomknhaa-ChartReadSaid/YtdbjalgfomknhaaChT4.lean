/- Package chart: times of a chart, as truths (no program in sight). -/
import Derived.Test.YtdbjalgfomknhaaChT2
import Derived.Test.YtdbjalgfomknhaaChW
import Derived.Test.YtdbjalgfomknhaaChK
import Derived.Test.YtdbjalgfomknhaaChRd
set_option linter.unusedVariables false
set_option linter.unusedSimpArgs false
namespace Go.Bal
open Go Go.Sym Go.Proofs
def Ke (c : Cht) (g : Nat) : Int := (gD c.ms (g + 1)).pl - (gD c.ms g).pl
def yE (c : Cht) (sp : Nat -> Bool) (g : Nat) : Span := ⟨c.p.lo * Ke c g, bif sp g then 200000000 else c.p.hi * Ke c g⟩
theorem ChOk.far {c : Cht} (h : ChOk c) {g : Nat} (hg : g + 1 < c.ms.length) : 1 <= Ke c g /\ Ke c g <= 10000 := by
 have h1 := h.up g hg
 have h2 := h.mks g (by omega)
 have h3 := h.mks (g + 1) hg
 unfold Ke; omega
theorem ChOk.gap {c : Cht} (h : ChOk c) (sp : Nat -> Bool) {g : Nat} (hg : g + 1 < c.ms.length) : (1 <= c.p.lo * Ke c g /\ c.p.lo * Ke c g <= 6000000) /\ (c.p.lo * Ke c g <= c.p.hi * Ke c g /\ c.p.hi * Ke c g <= 6000000) /\ (yE c sp g).lo <= (yE c sp g).hi := by
 obtain ⟨f1, f2⟩ := h.far hg
 obtain ⟨p1, p2, p3⟩ := h.p
 have a1 := mulb (a := c.p.lo) (b := Ke c g) (A := 600) (B := 10000) (by omega) (by omega) (by omega) f2
 have a2 := mulb (a := c.p.hi) (b := Ke c g) (A := 600) (B := 10000) (by omega) (by omega) (by omega) f2
 have a3 : c.p.lo * Ke c g <= c.p.hi * Ke c g := Int.mul_le_mul_of_nonneg_right p2 (by omega)
 have a4 : 1 * 1 <= c.p.lo * Ke c g := Int.mul_le_mul p1 f1 (by omega) (by omega)
 refine ⟨by omega, by omega, ?_⟩
 show c.p.lo * Ke c g <= bif sp g then 200000000 else c.p.hi * Ke c g
 cases sp g
 ·exact a3
 ·show _ <= (200000000 : Int); omega
theorem Po {w : Dk} (h : ChOk w.c) {g : Nat} (hg : g + 1 < w.c.ms.length) : SS w g = yE w.c w.sp g := by
 obtain ⟨f1, f2⟩ := h.far hg
 obtain ⟨a1, a2, _⟩ := h.gap w.sp hg
 have e : farM w.c g = Ke w.c g := by unfold farM wr; unfold Ke at *; exact NU (by omega) (by omega)
 unfold SS yE
 rw [e]
 unfold wr
 rw [NU (by omega) (by omega), NU (by omega) (by omega)]
theorem ADD {w : Dk} (h : ChOk w.c) : gpOk (SS w) (w.c.ms.length - 1) := λ g hg => by
 obtain ⟨a1, a2, a3⟩ := h.gap w.sp (g := g) (by omega)
 rw [Po h (by omega)]
 refine ⟨⟨by show 0 <= w.c.p.lo * Ke w.c g; omega, by show w.c.p.lo * Ke w.c g <= _; omega⟩, by have : (yE w.c w.sp g).lo = w.c.p.lo * Ke w.c g := rfl; omega, ?_⟩
 show (bif w.sp g then 200000000 else w.c.p.hi * Ke w.c g) <= _
 cases w.sp g
 ·show w.c.p.hi * Ke w.c g <= _; omega
 ·show (200000000 : Int) <= _; omega
theorem ADB {w : Dk} (h : ChOk w.c) : ∀ g, g < w.c.ms.length - 1 -> (SS w g).lo <= (SS w g).hi := λ g hg => by
 rw [Po h (by omega)]; exact (h.gap w.sp (by omega)).2.2
theorem L7 {c : Cht} (h : ChOk c) (j : Int) : wB 100000000 (Pv c j) /\ (Pv c j).lo <= (Pv c j).hi := by
 unfold Pv
 cases hj : hasN c.ns j with
 | false => show wB 100000000 farS /\ farS.lo <= farS.hi; exact ⟨⟨by decide, by decide⟩, by decide⟩
 | true =>
  obtain ⟨hm, _⟩ := kH hj
  have := (h.nt _ hm).t
  refine ⟨?_, this.2.1⟩
  show wB _ (ntOf c.ns j).t
  unfold wB; omega
theorem ADF {c : Cht} {i : Nat} (hi : i < c.ms.length) : gD (Kb c) i = Pv c i := HM _ _ _ hi
theorem Tr.ext2 {l l' s s' : Nat -> Span} {n : Nat} {t : Nat -> Int} (h : Tr l s n t) (h1 : ∀ i, i <= n -> l i = l' i) (h2 : ∀ g, g < n -> s g = s' g) : Tr l' s' n t := ⟨λ i hi => by rw [<- h1 i hi]; exact h.at_ i hi, λ g hg => by rw [<- h2 g hg]; exact h.gap g hg⟩
def TrC (c : Cht) (sp : Nat -> Bool) (t : Nat -> Int) : Prop := Tr (λ i => Pv c i) (yE c sp) (c.ms.length - 1) t
theorem ADS {w : Dk} (h : ChOk w.c) {t : Nat -> Int} : Tr (gD (Kb w.c)) (SS w) (w.c.ms.length - 1) t ↔ TrC w.c w.sp t := by
 have := h.m
 exact ⟨λ q => q.ext2 (λ i hi => ADF (by omega)) (λ g hg => Po h (by omega)), λ q => q.ext2 (λ i hi => (ADF (by omega)).symm) (λ g hg => (Po h (by omega)).symm)⟩
theorem AWP {c : Cht} (h : ChOk c) : ∀ i, i < (Kb c).length -> wB 1000000000 (gD (Kb c) i) := λ i hi => by
 rw [PP] at hi
 rw [ADF hi]
 have := (L7 h i).1
 unfold wB at *; omega
theorem K6 {w : Dk} (h : ChOk w.c) : (HV w).2 = true ↔ Hn w.c = true /\ ∃ t, TrC w.c w.sp t := by
 have hm := h.m
 have hk := ATO (w := w) (l := Kb w.c) (by rw [PP]; omega) (by rw [PP]; omega) (AWP h) (by rw [PP]; exact ADD h) (by rw [PP]; exact ADB h)
 rw [PP] at hk
 unfold HV
 cases hs : Hn w.c with
 | false => exact ⟨λ h => (by cases h), λ h => (by cases h.1)⟩
 | true =>
  show (Ry w (Kb w.c)).all Ps = true ↔ _
  rw [hk]
  exact ⟨λ ⟨t, ht⟩ => ⟨rfl, t, (ADS h).1 ht⟩, λ ⟨_, t, ht⟩ => ⟨t, (ADS h).2 ht⟩⟩
theorem BEO {w : Dk} (h : ChOk w.c) (hk : (HV w).2 = true) {i : Nat} (hi : i < w.c.ms.length) {x : Int} : (gD (HV w).1 i).has x ↔ ∃ t, TrC w.c w.sp t /\ t i = x := by
 have hm := h.m
 obtain ⟨hs, t, ht⟩ := (K6 h).1 hk
 have e : (HV w).1 = Ry w (Kb w.c) := by unfold HV; rw [hs]; rfl
 have b1 := ADD h
 have b2 := ADB h
 rw [e, ANX (by rw [PP]; omega) (by rw [PP]; omega) (AWP h) (by rw [PP]; exact b1) (by rw [PP]; exact hi), PP]
 rw [AWN b2 ((ARE b2).2 ⟨t, (ADS h).2 ht⟩) (by omega)]
 exact ⟨λ ⟨t, a, b⟩ => ⟨t, (ADS h).1 a, b⟩, λ ⟨t, a, b⟩ => ⟨t, (ADS h).2 a, b⟩⟩
theorem BCS {w : Dk} (hk : (HV w).2 = true) {i : Nat} (hi : i < w.c.ms.length) : (gD (HV w).1 i).lo <= (gD (HV w).1 i).hi := by
 unfold HV at hk ⊢
 cases hs : Hn w.c with
 | false => rw [hs] at hk; cases hk
 | true =>
  rw [hs] at hk
  have hk : (Ry w (Kb w.c)).all Ps = true := hk
  exact H6.1 hk i (by rw [ARM, PP]; exact hi)
end Go.Bal

namespace Go.Bal
open Go Go.Sym Go.Proofs
theorem VZ (l : List Span) (k a b : Int) : (vY l k a b).length = l.length := rng_length _ _
theorem BTE {l : List Span} {g : Nat} {a b : Int} {i : Nat} (hi : i < l.length) (hg : g + 1 < l.length) : gD (vY l ((g : Int) + 1) a b) i = ⟨bif decide (i = g + 1) then GV (gD l i).lo b else (gD l i).lo, bif decide (i = g) then PV (gD l i).hi a else (gD l i).hi⟩ := by
 unfold vY
 rw [HM _ _ _ hi]
 unfold parM
 have e1 : ((g : Int) + 1).toNat = g + 1 := by omega
 have e2 : ((g : Int) + 1 - 1).toNat = g := by omega
 rw [e1, e2, decide_eq_true (show (g : Int) + 1 < l.length by omega), decide_eq_true (show (g : Int) + 1 > 0 by omega), Bool.and_true, Bool.true_and]
theorem wK {a : CZ} (h : ChOk a.c) (hr : FO a = 0) {i : Nat} (hi : i < a.c.ms.length) {x : Int} : (gD (UD a) i).has x ↔ ∃ t, TrC a.c (JB a).sp t /\ t i = x :=
 BEO (w := JB a) h (Vl hr).2.2 hi
theorem BUG {a : CZ} (hr : FO a = 0) {i : Nat} (hi : i < a.c.ms.length) : (gD (UD a) i).lo <= (gD (UD a) i).hi := BCS (w := JB a) (Vl hr).2.2 hi
theorem TrC.note {c : Cht} {sp : Nat -> Bool} {t : Nat -> Int} (h : TrC c sp t) {i : Nat} (hi : i < c.ms.length) : (Pv c i).has (t i) := h.at_ i (by omega)
theorem BPC {a : CZ} (h : ChOk a.c) (hr : FO a = 0) {i : Nat} (hi : i < a.c.ms.length) : wB 100000000 (gD (UD a) i) := by
 have hle := BUG hr hi
 obtain ⟨t1, a1, b1⟩ := (wK h hr hi).1 ⟨Int.le_refl _, hle⟩
 obtain ⟨t2, a2, b2⟩ := (wK h hr hi).1 ⟨hle, Int.le_refl _⟩
 have c1 := a1.note hi
 have c2 := a2.note hi
 have d := (L7 h i).1
 rw [b1] at c1; rw [b2] at c2
 unfold Span.has wB at *; omega
theorem AVR {a : CZ} (h : ChOk a.c) (hr : FO a = 0) {g : Nat} (hg : g + 1 < a.c.ms.length) {t : Int} (ht : -100000000 <= t /\ t <= 100000000) : sE a t g = true ↔ ∃ u, TrC a.c (JB a).sp u /\ u g <= t - 1 /\ t + 1 <= u (g + 1) := by
 have hl := vL hr
 have hm := h.m
 have w1 : wr (t - 1) = t - 1 := NU (by omega) (by omega)
 have w2 : wr (t + 1) = t + 1 := NU (by omega) (by omega)
 have b1 : gpOk (SS (JB a)) (a.c.ms.length - 1) := ADD (w := JB a) h
 have b2 : ∀ g, g < a.c.ms.length - 1 -> (SS (JB a) g).lo <= (SS (JB a) g).hi := ADB (w := JB a) h
 have pa := λ i (hi : i < a.c.ms.length) => BTE (l := UD a) (g := g) (a := t - 1) (b := t + 1) (i := i) (by omega) (by omega)
 unfold sE
 rw [w1, w2, ATO (by rw [VZ]; omega) (by rw [VZ]; omega) (λ i hi => ?_) (by rw [VZ, hl]; exact b1) (by rw [VZ, hl]; exact b2), VZ, hl]
 ·constructor
  ·rintro ⟨u, hu⟩
   have hin : ∀ i, i < a.c.ms.length -> (gD (UD a) i).has (u i) := λ i hi => by
    have := hu.at_ i (by omega)
    rw [pa i hi] at this
    obtain ⟨q1, q2⟩ := this
    have m1 := uN (gD (UD a) i).lo (t + 1)
    have m2 := ADK (gD (UD a) i).hi (t - 1)
    refine ⟨Int.le_trans ?_ q1, Int.le_trans q2 ?_⟩
    ·show _ <= bif decide (i = g + 1) then GV (gD (UD a) i).lo (t + 1) else (gD (UD a) i).lo
     cases decide (i = g + 1)
     ·exact Int.le_refl _
     ·exact m1.1
    ·show (bif decide (i = g) then PV (gD (UD a) i).hi (t - 1) else (gD (UD a) i).hi) <= _
     cases decide (i = g)
     ·exact Int.le_refl _
     ·exact m2.1
   refine ⟨u, ⟨λ i hi => ?_, λ k hk => ?_⟩, ?_, ?_⟩
   ·obtain ⟨v, v1, v2⟩ := (wK h hr (by omega)).1 (hin i (by omega))
    have := v1.note (i := i) (by omega)
    rw [v2] at this; exact this
   ·have := hu.gap k hk
    rw [Po (w := JB a) h (by show k + 1 < a.c.ms.length; omega)] at this; exact this
   ·have := (hu.at_ g (by omega)).2
    rw [pa g (by omega)] at this
    have this : u g <= bif decide (g = g) then PV (gD (UD a) g).hi (t - 1) else (gD (UD a) g).hi := this
    rw [decide_eq_true rfl] at this
    have m2 := ADK (gD (UD a) g).hi (t - 1)
    exact Int.le_trans this m2.2
   ·have := (hu.at_ (g + 1) (by omega)).1
    rw [pa (g + 1) hg] at this
    have this : (bif decide (g + 1 = g + 1) then GV (gD (UD a) (g + 1)).lo (t + 1) else (gD (UD a) (g + 1)).lo) <= u (g + 1) := this
    rw [decide_eq_true rfl] at this
    have m2 := uN (gD (UD a) (g + 1)).lo (t + 1)
    exact Int.le_trans m2.2 this
  ·rintro ⟨u, hu, u1, u2⟩
   refine ⟨u, λ i hi => ?_, λ k hk => ?_⟩
   ·have hin := (wK h hr (show i < a.c.ms.length by omega)).2 ⟨u, hu, rfl⟩
    rw [pa i (by omega)]
    refine ⟨?_, ?_⟩
    ·show (bif decide (i = g + 1) then GV (gD (UD a) i).lo (t + 1) else (gD (UD a) i).lo) <= u i
     by_cases e : i = g + 1
     ·subst e; rw [decide_eq_true rfl]; exact maxI_le.2 ⟨hin.1, u2⟩
     ·rw [decide_eq_false e]; exact hin.1
    ·show u i <= bif decide (i = g) then PV (gD (UD a) i).hi (t - 1) else (gD (UD a) i).hi
     by_cases e : i = g
     ·subst e; rw [decide_eq_true rfl]; exact le_minI.2 ⟨hin.2, u1⟩
     ·rw [decide_eq_false e]; exact hin.2
   ·have := hu.gap k hk
    rw [Po (w := JB a) h (by show k + 1 < a.c.ms.length; omega)]; exact this
 ·rw [VZ, hl] at hi
  have hb := BPC h hr hi
  rw [pa i hi]
  refine ⟨?_, ?_⟩
  ·show _ <= (bif decide (i = g + 1) then GV (gD (UD a) i).lo (t + 1) else (gD (UD a) i).lo) /\ (bif decide (i = g + 1) then GV (gD (UD a) i).lo (t + 1) else (gD (UD a) i).lo) <= _
   unfold wB GV at *
   cases decide (i = g + 1)
   ·simp only [cond_false]; omega
   ·simp only [cond_true]; split <;> omega
  ·show _ <= (bif decide (i = g) then PV (gD (UD a) i).hi (t - 1) else (gD (UD a) i).hi) /\ (bif decide (i = g) then PV (gD (UD a) i).hi (t - 1) else (gD (UD a) i).hi) <= _
   unfold wB PV at *
   cases decide (i = g)
   ·simp only [cond_false]; omega
   ·simp only [cond_true]; split <;> omega
end Go.Bal

namespace Go.Bal
open Go Go.Sym Go.Proofs
theorem BME (s : Stm) : Stm.mk s.bs s.used s.mix = s := rfl
theorem PR {K : Int} {s : Stm} (h : StmB K s) (hK : K <= 1000000000000000) (lo hi : Int) : StmB (K + 1) (Fc s lo hi) := h.next hK _
theorem ANP {a : MkI} (h : preM a) : StmB 1 (gS1 a.s) /\ StmB 2 (gS2 a.s) /\ StmB 3 (gS3 a.s) /\ StmB 4 (gS4 a.s) /\ StmB 5 (gS5 a.s) /\ StmB 6 (gS6 a.s) := by
 have b1 : StmB 1 (gS1 a.s) := (PR h.1 (by omega) 1 12).mono (by omega)
 have b2 : StmB 2 (gS2 a.s) := (PR b1 (by omega) (-50) 400).mono (by omega)
 have b3 : StmB 3 (gS3 a.s) := (b2.next (by omega) 12).mono (by omega)
 have b4 : StmB 4 (gS4 a.s) := (b3.next (by omega) 9).mono (by omega)
 have b5 : StmB 5 (gS5 a.s) := (b4.next (by omega) 6).mono (by omega)
 exact ⟨b1, b2, b3, b4, b5, (b5.next (by omega) 300).mono (by omega)⟩
theorem BFW {a : MkI} (h : preM a) : (mN a : Int) = Rj (gS6 a.s) 1 a.m /\ 1 <= mN a /\ (mN a : Int) <= a.m := by
 obtain ⟨_, _, _, _, _, b6⟩ := ANP h
 obtain ⟨_, m1, m2⟩ := h
 have := tS b6 (by omega) (lo := 1) (hi := a.m) (by omega) m1 (by omega)
 unfold mN; omega
theorem go_0 {a : MkI} {x : MS} (h : x.ms = []) : goM a x = x := by unfold goM; rw [h]; rfl
theorem go_1 {a : MkI} {x : MS} (h : 0 < x.ms.length) : goM a x = advZ a (advA a x) := by unfold goM; rw [decide_eq_true h]; rfl
theorem ARZ {a : MkI} {k : Nat} {x : MS} (h : 0 < k) : dD a k x = dD a (k - 1) (zL a (goM a x)) := by
 obtain ⟨n, rfl⟩ : ∃ n, k = n + 1 := ⟨k - 1, by omega⟩
 rfl
theorem n_lt {i n k : Nat} (h : (bif decide ((i : Int) < n) then decide ((k : Int) < 20) else false) = true) : i < n := by
 cases hd : decide ((i : Int) < n) with
 | false => rw [hd] at h; cases h
 | true => have := of_decide_eq_true hd; omega
theorem n_ge {i n k : Nat} (hk : k < 20) (h : (bif decide ((i : Int) < n) then decide ((k : Int) < 20) else false) = false) : ¬ i < n := by
 intro hi
 rw [decide_eq_true (show (i : Int) < n by omega), decide_eq_true (show (k : Int) < 20 by omega)] at h; cases h
theorem BNP {a : MkI} {i : Nat} {x : NSt} (h : i < (mS a).ms.length) : mkN a ((mS a).ms.length - i) i x = mkN a ((mS a).ms.length - (i + 1)) (i + 1) (addN a (BZ x.s 2 == 0) i ⟨CP x.s 2, x.ns⟩) := by
 obtain ⟨n, hn⟩ : ∃ n, (mS a).ms.length - i = n + 1 := ⟨(mS a).ms.length - i - 1, by omega⟩
 rw [hn, show (mS a).ms.length - (i + 1) = n by omega]; rfl
theorem Wb (l : List Nt) (i k : Nat) : (swN l i k).length = l.length := by simp [swN]
theorem AYA {l : List Nt} {j i : Nat} {x : Nt} (hj : j < l.length) : gD (l.set j x) i = bif decide (i = j) then x else gD l i := by
 unfold gD
 rw [List.getD_eq_getElem?_getD, List.getD_eq_getElem?_getD, List.getElem?_set]
 by_cases h : i = j
 ·subst h; simp [hj]
 ·simp [h, Ne.symm h]
theorem BED {l : List Nt} {i k : Nat} (hi : i < l.length) (hk : k < l.length) {t : Nat} : gD (swN l i k) t = bif decide (t = k) then gD l i else bif decide (t = i) then gD l k else gD l t := by
 unfold swN
 rw [AYA (by simpa using hk), AYA hi]
end Go.Bal
