/- Package chart: what can be at a time, as truths (no program in sight). -/
import Derived.Test.YtdbjalgfomknhaaChT4
import Derived.Test.YtdbjalgfomknhaaChW
import Derived.Test.YtdbjalgfomknhaaChK
set_option linter.unusedVariables false
set_option linter.unusedSimpArgs false
namespace Go.Bal
open Go Go.Sym Go.Proofs
theorem GP (l : List Span) (k a b : Int) : (Fq l k a b).length = l.length := rng_length _ _
theorem CVJ {l : List Span} {g : Nat} {a b : Int} {i : Nat} (hi : i < l.length) (hg : g + 1 < l.length) : gD (Fq l ((g : Int) + 1) a b) i = ⟨bif decide (i = g + 1) then AY (gD l i).lo b else (gD l i).lo, bif decide (i = g) then DX (gD l i).hi a else (gD l i).hi⟩ := by
 unfold Fq
 rw [BK _ _ _ hi]
 unfold parM
 have e1 : ((g : Int) + 1).toNat = g + 1 := by omega
 have e2 : ((g : Int) + 1 - 1).toNat = g := by omega
 rw [e1, e2, decide_eq_true (show (g : Int) + 1 < l.length by omega), decide_eq_true (show (g : Int) + 1 > 0 by omega), Bool.and_true, Bool.true_and]
theorem gT {a : CZ} (h : ChOk a.c) (hr : AM a = 0) {i : Nat} (hi : i < a.c.ms.length) {x : Int} : (gD (CB a) i).has x ↔ ∃ t, TrC a.c (AH a).sp t /\ t i = x :=
 CMI (w := AH a) h (XD hr).2.2 hi
theorem CGK {a : CZ} (hr : AM a = 0) {i : Nat} (hi : i < a.c.ms.length) : (gD (CB a) i).lo <= (gD (CB a) i).hi := CMH (w := AH a) (XD hr).2.2 hi
theorem TrC.note {c : Cht} {sp : Nat -> Bool} {t : Nat -> Int} (h : TrC c sp t) {i : Nat} (hi : i < c.ms.length) : (IN c i).has (t i) := h.at_ i (by omega)
theorem CLL {a : CZ} (h : ChOk a.c) (hr : AM a = 0) {i : Nat} (hi : i < a.c.ms.length) : YM 100000000 (gD (CB a) i) := by
 have hle := CGK hr hi
 obtain ⟨t1, a1, b1⟩ := (gT h hr hi).1 ⟨Int.le_refl _, hle⟩
 obtain ⟨t2, a2, b2⟩ := (gT h hr hi).1 ⟨hle, Int.le_refl _⟩
 have c1 := a1.note hi
 have c2 := a2.note hi
 have d := (C7 h i).1
 rw [b1] at c1; rw [b2] at c2
 unfold Span.has YM at *; omega
theorem CCP {a : CZ} (h : ChOk a.c) (hr : AM a = 0) {g : Nat} (hg : g + 1 < a.c.ms.length) {t : Int} (ht : -100000000 <= t /\ t <= 100000000) : Uv a t g = true ↔ ∃ u, TrC a.c (AH a).sp u /\ u g <= t - 1 /\ t + 1 <= u (g + 1) := by
 have hl := Fx hr
 have hm := h.m
 have w1 : wr (t - 1) = t - 1 := CP (by omega) (by omega)
 have w2 : wr (t + 1) = t + 1 := CP (by omega) (by omega)
 have b1 : gpOk (DZ (AH a)) (a.c.ms.length - 1) := AOA (w := AH a) h
 have b2 : ∀ g, g < a.c.ms.length - 1 -> (DZ (AH a) g).lo <= (DZ (AH a) g).hi := APC (w := AH a) h
 have pa := λ i (hi : i < a.c.ms.length) => CVJ (l := CB a) (g := g) (a := t - 1) (b := t + 1) (i := i) (by omega) (by omega)
 unfold Uv
 rw [w1, w2, BXJ (by rw [GP]; omega) (by rw [GP]; omega) (λ i hi => ?_) (by rw [GP, hl]; exact b1) (by rw [GP, hl]; exact b2), GP, hl]
 ·constructor
  ·rintro ⟨u, hu⟩
   have hin : ∀ i, i < a.c.ms.length -> (gD (CB a) i).has (u i) := λ i hi => by
    have := hu.at_ i (by omega)
    rw [pa i hi] at this
    obtain ⟨q1, q2⟩ := this
    have m1 := Yt (gD (CB a) i).lo (t + 1)
    have m2 := ANN (gD (CB a) i).hi (t - 1)
    refine ⟨Int.le_trans ?_ q1, Int.le_trans q2 ?_⟩
    ·show _ <= bif decide (i = g + 1) then AY (gD (CB a) i).lo (t + 1) else (gD (CB a) i).lo
     cases decide (i = g + 1)
     ·exact Int.le_refl _
     ·exact m1.1
    ·show (bif decide (i = g) then DX (gD (CB a) i).hi (t - 1) else (gD (CB a) i).hi) <= _
     cases decide (i = g)
     ·exact Int.le_refl _
     ·exact m2.1
   refine ⟨u, ⟨λ i hi => ?_, λ k hk => ?_⟩, ?_, ?_⟩
   ·obtain ⟨v, v1, v2⟩ := (gT h hr (by omega)).1 (hin i (by omega))
    have := v1.note (i := i) (by omega)
    rw [v2] at this; exact this
   ·have := hu.gap k hk
    rw [VO (w := AH a) h (by show k + 1 < a.c.ms.length; omega)] at this; exact this
   ·have := (hu.at_ g (by omega)).2
    rw [pa g (by omega)] at this
    have this : u g <= bif decide (g = g) then DX (gD (CB a) g).hi (t - 1) else (gD (CB a) g).hi := this
    rw [decide_eq_true rfl] at this
    have m2 := ANN (gD (CB a) g).hi (t - 1)
    exact Int.le_trans this m2.2
   ·have := (hu.at_ (g + 1) (by omega)).1
    rw [pa (g + 1) hg] at this
    have this : (bif decide (g + 1 = g + 1) then AY (gD (CB a) (g + 1)).lo (t + 1) else (gD (CB a) (g + 1)).lo) <= u (g + 1) := this
    rw [decide_eq_true rfl] at this
    have m2 := Yt (gD (CB a) (g + 1)).lo (t + 1)
    exact Int.le_trans m2.2 this
  ·rintro ⟨u, hu, u1, u2⟩
   refine ⟨u, λ i hi => ?_, λ k hk => ?_⟩
   ·have hin := (gT h hr (show i < a.c.ms.length by omega)).2 ⟨u, hu, rfl⟩
    rw [pa i (by omega)]
    refine ⟨?_, ?_⟩
    ·show (bif decide (i = g + 1) then AY (gD (CB a) i).lo (t + 1) else (gD (CB a) i).lo) <= u i
     by_cases e : i = g + 1
     ·subst e; rw [decide_eq_true rfl]; exact maxI_le.2 ⟨hin.1, u2⟩
     ·rw [decide_eq_false e]; exact hin.1
    ·show u i <= bif decide (i = g) then DX (gD (CB a) i).hi (t - 1) else (gD (CB a) i).hi
     by_cases e : i = g
     ·subst e; rw [decide_eq_true rfl]; exact le_minI.2 ⟨hin.2, u1⟩
     ·rw [decide_eq_false e]; exact hin.2
   ·have := hu.gap k hk
    rw [VO (w := AH a) h (by show k + 1 < a.c.ms.length; omega)]; exact this
 ·rw [GP, hl] at hi
  have hb := CLL h hr hi
  rw [pa i hi]
  refine ⟨?_, ?_⟩
  ·show _ <= (bif decide (i = g + 1) then AY (gD (CB a) i).lo (t + 1) else (gD (CB a) i).lo) /\ (bif decide (i = g + 1) then AY (gD (CB a) i).lo (t + 1) else (gD (CB a) i).lo) <= _
   unfold YM AY at *
   cases decide (i = g + 1)
   ·simp only [cond_false]; omega
   ·simp only [cond_true]; split <;> omega
  ·show _ <= (bif decide (i = g) then DX (gD (CB a) i).hi (t - 1) else (gD (CB a) i).hi) /\ (bif decide (i = g) then DX (gD (CB a) i).hi (t - 1) else (gD (CB a) i).hi) <= _
   unfold YM DX at *
   cases decide (i = g)
   ·simp only [cond_false]; omega
   ·simp only [cond_true]; split <;> omega
end Go.Bal

namespace Go.Bal
open Go Go.Sym Go.Proofs
theorem BSD (s : Stm) : Stm.mk s.bs s.used s.mix = s := rfl
theorem DV {K : Int} {s : Stm} (h : StmB K s) (hK : K <= 1000000000000000) (lo hi : Int) : StmB (K + 1) (KH s lo hi) := h.next hK _
theorem BQN {a : MkI} (h : preM a) : StmB 1 (gS1 a.s) /\ StmB 2 (gS2 a.s) /\ StmB 3 (gS3 a.s) /\ StmB 4 (gS4 a.s) /\ StmB 5 (gS5 a.s) /\ StmB 6 (gS6 a.s) := by
 have b1 : StmB 1 (gS1 a.s) := (DV h.1 (by omega) 1 12).mono (by omega)
 have b2 : StmB 2 (gS2 a.s) := (DV b1 (by omega) (-50) 400).mono (by omega)
 have b3 : StmB 3 (gS3 a.s) := (b2.next (by omega) 12).mono (by omega)
 have b4 : StmB 4 (gS4 a.s) := (b3.next (by omega) 9).mono (by omega)
 have b5 : StmB 5 (gS5 a.s) := (b4.next (by omega) 6).mono (by omega)
 exact ⟨b1, b2, b3, b4, b5, (b5.next (by omega) 300).mono (by omega)⟩
theorem CIZ {a : MkI} (h : preM a) : (mN a : Int) = UE (gS6 a.s) 1 a.m /\ 1 <= mN a /\ (mN a : Int) <= a.m := by
 obtain ⟨_, _, _, _, _, b6⟩ := BQN h
 obtain ⟨_, m1, m2⟩ := h
 have := Zc b6 (by omega) (lo := 1) (hi := a.m) (by omega) m1 (by omega)
 unfold mN; omega
theorem go_0 {a : MkI} {x : MS} (h : x.ms = []) : goM a x = x := by unfold goM; rw [h]; rfl
theorem go_1 {a : MkI} {x : MS} (h : 0 < x.ms.length) : goM a x = advZ a (advA a x) := by unfold goM; rw [decide_eq_true h]; rfl
theorem BYB {a : MkI} {k : Nat} {x : MS} (h : 0 < k) : Gl a k x = Gl a (k - 1) (iL a (goM a x)) := by
 obtain ⟨n, rfl⟩ : ∃ n, k = n + 1 := ⟨k - 1, by omega⟩
 rfl
theorem n_lt {i n k : Nat} (h : (bif decide ((i : Int) < n) then decide ((k : Int) < 20) else false) = true) : i < n := by
 cases hd : decide ((i : Int) < n) with
 | false => rw [hd] at h; cases h
 | true => have := of_decide_eq_true hd; omega
theorem n_ge {i n k : Nat} (hk : k < 20) (h : (bif decide ((i : Int) < n) then decide ((k : Int) < 20) else false) = false) : ¬ i < n := by
 intro hi
 rw [decide_eq_true (show (i : Int) < n by omega), decide_eq_true (show (k : Int) < 20 by omega)] at h; cases h
theorem CSW {a : MkI} {i : Nat} {x : NSt} (h : i < (mS a).ms.length) : mkN a ((mS a).ms.length - i) i x = mkN a ((mS a).ms.length - (i + 1)) (i + 1) (addN a (AN x.s 2 == 0) i ⟨AQ x.s 2, x.ns⟩) := by
 obtain ⟨n, hn⟩ : ∃ n, (mS a).ms.length - i = n + 1 := ⟨(mS a).ms.length - i - 1, by omega⟩
 rw [hn, show (mS a).ms.length - (i + 1) = n by omega]; rfl
theorem WF (l : List Nt) (i k : Nat) : (swN l i k).length = l.length := by simp [swN]
theorem CAQ {l : List Nt} {j i : Nat} {x : Nt} (hj : j < l.length) : gD (l.set j x) i = bif decide (i = j) then x else gD l i := by
 unfold gD
 rw [List.getD_eq_getElem?_getD, List.getD_eq_getElem?_getD, List.getElem?_set]
 by_cases h : i = j
 ·subst h; simp [hj]
 ·simp [h, Ne.symm h]
theorem CJE {l : List Nt} {i k : Nat} (hi : i < l.length) (hk : k < l.length) {t : Nat} : gD (swN l i k) t = bif decide (t = k) then gD l i else bif decide (t = i) then gD l k else gD l t := by
 unfold swN
 rw [CAQ (by simpa using hk), CAQ hi]
end Go.Bal
