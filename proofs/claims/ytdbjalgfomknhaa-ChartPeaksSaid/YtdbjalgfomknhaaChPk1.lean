/- Law ChartPeaks: what is asked is so. -/
import Derived.Test.YtdbjalgfomknhaaChPk
import Derived.Test.YtdbjalgfomknhaaChT9
set_option linter.unusedVariables false
set_option linter.unusedSimpArgs false
namespace Go.Bal
open Go Go.Sym Go.Proofs
def PkFin (X Y W : Span × Int) : Prop := (W.2 = 5 /\ X.2 = 5 /\ Y.2 = 5) ∨ (W.2 = 0 /\ W.1.lo <= W.1.hi /\ (X.2 = 0 /\ Y.2 = 0 /\ W.1.hi = maxI X.1.hi Y.1.hi /\ X.1.hi <= W.1.hi /\ Y.1.hi <= W.1.hi ∨ X.2 = 0 /\ Y.2 = 5 /\ W.1.hi = X.1.hi ∨ X.2 = 5 /\ Y.2 = 0 /\ W.1.hi = Y.1.hi))
theorem pk_core {a : CZ} (h : ChOk a.c) (hr : readE a = 0) {A B D : Int} (h1 : A <= B) (h2 : B + 1 <= D) : PkFin (peakV ⟨a, A, B⟩) (peakV ⟨a, B + 1, D⟩) (peakV ⟨a, A, D⟩) := by
 have X := peak_fact (x := ⟨a, A, B⟩) h hr h1
 have Y := peak_fact (x := ⟨a, B + 1, D⟩) h hr h2
 have W := peak_fact (x := ⟨a, A, D⟩) h hr (by show A <= D; omega)
 generalize peakV ⟨a, A, B⟩ = PX at *
 generalize peakV ⟨a, B + 1, D⟩ = PY at *
 generalize peakV ⟨a, A, D⟩ = PW at *
 dsimp only at X Y W
 rcases W with ⟨w1, w2, ⟨u, u1, k, k1, k2, k3⟩, w4⟩ | ⟨w1, w2⟩
 ·refine .inr ⟨w1, w2, ?_⟩
  rcases X with ⟨x1, x2, ⟨v, v1, i, i1, i2, i3⟩, x4⟩ | ⟨x1, x2⟩ <;> rcases Y with ⟨y1, y2, ⟨z, z1, j, j1, j2, j3⟩, y4⟩ | ⟨y1, y2⟩
  ·have a1 := w4 v v1 i i1 (by omega)
   have a2 := w4 z z1 j j1 (by omega)
   have mx := maxI_or2 PX.1.hi PY.1.hi
   refine .inl ⟨x1, y1, ?_, by omega, by omega⟩
   rcases Int.lt_or_le B (u k) with q | q
   ·have := y4 u u1 k k1 (by omega); omega
   ·have := x4 u u1 k k1 (by omega); omega
  ·have a1 := w4 v v1 i i1 (by omega)
   refine .inr (.inl ⟨x1, by rw [y1], ?_⟩)
   rcases Int.lt_or_le B (u k) with q | q
   ·exact absurd (show B + 1 <= u k /\ u k <= D by omega) (y2 u u1 k k1)
   ·have := x4 u u1 k k1 (by omega); omega
  ·have a2 := w4 z z1 j j1 (by omega)
   refine .inr (.inr ⟨by rw [x1], y1, ?_⟩)
   rcases Int.lt_or_le B (u k) with q | q
   ·have := y4 u u1 k k1 (by omega); omega
   ·exact absurd (show A <= u k /\ u k <= B by omega) (x2 u u1 k k1)
  ·rcases Int.lt_or_le B (u k) with q | q
   ·exact absurd (show B + 1 <= u k /\ u k <= D by omega) (y2 u u1 k k1)
   ·exact absurd (show A <= u k /\ u k <= B by omega) (x2 u u1 k k1)
 ·refine .inl ⟨by rw [w1], ?_, ?_⟩
  ·rcases X with ⟨x1, x2, ⟨v, v1, i, i1, i2, i3⟩, x4⟩ | ⟨x1, x2⟩
   ·exact absurd (show A <= v i /\ v i <= D by omega) (w2 v v1 i i1)
   ·rw [x1]
  ·rcases Y with ⟨y1, y2, ⟨z, z1, j, j1, j2, j3⟩, y4⟩ | ⟨y1, y2⟩
   ·exact absurd (show A <= z j /\ z j <= D by omega) (w2 z z1 j j1)
   ·rw [y1]
theorem pw_num {t p1 p2 p3 : Int} (h0 : 0 <= t /\ t <= 20000) (h1 : 0 <= p1 /\ p1 < 300) (h2 : 0 <= p2 /\ p2 < 300) (h3 : 0 <= p3 /\ p3 < 300) : wr (wr (wr (t + p1) + p2) + 1) = wr (wr (t + p1) + p2) + 1 /\ wr (t + p1) <= wr (wr (t + p1) + p2) /\ wr (wr (t + p1) + p2) + 1 <= wr (wr (wr (wr (t + p1) + p2) + 1) + p3) := by
 have eA : wr (t + p1) = t + p1 := w64 (by omega) (by omega)
 have eB : wr (t + p1 + p2) = t + p1 + p2 := w64 (by omega) (by omega)
 have eC : wr (t + p1 + p2 + 1) = t + p1 + p2 + 1 := w64 (by omega) (by omega)
 have eD : wr (t + p1 + p2 + 1 + p3) = t + p1 + p2 + 1 + p3 := w64 (by omega) (by omega)
 rw [eA, eB, eC, eD]
 omega
theorem first_bool {a : CZ} (h : ChOk a.c) (hr : readE a = 0) (t : Int) : ((firstV ⟨a, t⟩).e = 0 ∨ (firstV ⟨a, t⟩).e = 5) /\ (firstV ⟨a, t⟩).b = decide (gLo (stgL a.c) >= t) /\ ((firstV ⟨a, t⟩).e == 0) = decide (gHi (stgL a.c) >= t) := by
 obtain ⟨f1, f2, f3⟩ := first_fact (x := ⟨a, t⟩) h hr
 have hm := h.m
 have hl := stgL_len a.c
 refine ⟨f1, ?_, ?_⟩
 ·rw [Bool.eq_iff_iff, f3, decide_eq_true_eq, gLo_ge (by omega), hl]
 ·rw [Bool.eq_iff_iff, beq_iff_eq, f2, decide_eq_true_eq, gHi_ge (by omega), hl]
theorem MadeF.read0 {a : MkI} (h : MadeF a) (hb : a.b = false) : readE ⟨mdC a, nilI⟩ = 0 /\ TrC (mdC a) (begD ⟨mdC a, nilI⟩).sp (gD (mdT a).t) := by
 have zn := h.zn hb
 exact h.read ((okZ_iff (a := ⟨mdC a, nilI⟩) h.ok.m).2 ⟨λ g hg => (by cases hg), .nil⟩) (by rw [zn]; intro g hg; cases hg)
theorem stages_ok {c : Cht} (h : ChOk c) (hs : stgOk c = true) : stagesV c = (stgL c, 0) := by
 unfold stagesV
 rw [good_iff.2 h, hs]; rfl
structure PwF (x : PwI) : Prop where
 pre : preM (pwM x)
 md : MadeF (pwM x)
 st : stagesV (pwC x) = (pwL x, 0)
 all : peakV ⟨pwZ x, -100000000, 100000000⟩ = (⟨gLo (pwL x), gHi (pwL x)⟩, 0)
 fe : (firstV ⟨pwZ x, pwLim x⟩).e = 0 ∨ (firstV ⟨pwZ x, pwLim x⟩).e = 5
 fb : (firstV ⟨pwZ x, pwLim x⟩).b = decide (gLo (pwL x) >= pwLim x)
 fo : ((firstV ⟨pwZ x, pwLim x⟩).e == 0) = decide (gHi (pwL x) >= pwLim x)
 fin : PkFin (pwX x) (pwY x) (pwW x)
theorem pw_facts (x : PwI) (hb : ∀ i, i < x.bs.length -> 0 <= gD x.bs i /\ gD x.bs i <= 255) : PwF x := by
 have hpre : preM (pwM x) := preM_of hb (by omega)
 have hM := madeF hpre
 have hok : ChOk (pwZ x).c := hM.ok
 have hrd : readE (pwZ x) = 0 := (hM.read0 rfl).1
 obtain ⟨f1, f2, f3⟩ := first_bool hok hrd (pwLim x)
 obtain ⟨n1, n2, n3⟩ := pw_num (hM.tb 0 hM.ok.m.1) (pick_in x.a (n := 300) (by decide)) (pick_in x.f (n := 300) (by decide)) (pick_in x.g (n := 300) (by decide))
 refine ⟨hpre, hM, stages_ok hM.ok hM.stg, peak_all (x := ⟨pwZ x, -100000000, 100000000⟩) hok hrd (Int.le_refl _) (Int.le_refl _), f1, f2, f3, ?_⟩
 have := pk_core hok hrd (A := pwA x) (B := pwB x) (D := pwD x) n2 n3
 have e : pwY x = peakV ⟨pwZ x, pwB x + 1, pwD x⟩ := by
  show peakV ⟨pwZ x, wr (pwB x + 1), pwD x⟩ = _
  rw [show wr (pwB x + 1) = pwB x + 1 from n1]
 rw [e]; exact this
end Go.Bal
