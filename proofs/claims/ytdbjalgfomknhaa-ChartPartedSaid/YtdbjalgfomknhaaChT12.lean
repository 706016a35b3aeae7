/- Package chart: a chart in two parts (no program in sight). -/
import Derived.Test.YtdbjalgfomknhaaChT9
set_option linter.unusedVariables false
set_option linter.unusedSimpArgs false
namespace Go.Bal
open Go Go.Sym Go.Proofs
structure PaH (c a b : Cht) (m : Nat) : Prop where
 hc : ChOk c
 ha : ChOk a
 hb : ChOk b
 hm : m < c.ms.length
 la : a.ms.length = m + 1
 lb : b.ms.length = c.ms.length - m
 pa : a.p = c.p
 pb : b.p = c.p
 fa : ∀ g, g < m -> JC a g = JC c g
 fb : ∀ g, m + g + 1 < c.ms.length -> JC b g = JC c (m + g)
 na : ∀ i : Nat, i <= m -> FT a i = FT c i
 nb : ∀ i : Nat, m + i < c.ms.length -> FT b i = FT c ((m + i : Nat) : Int)
 sa : ∀ i : Nat, i <= m -> DZ a i = DZ c i
 sb : ∀ i : Nat, m + i < c.ms.length -> DZ b i = DZ c ((m + i : Nat) : Int)
 ex : ∃ v, ∀ x, (FT c m).has x -> x = v
abbrev tJ : Nat -> Bool := λ _ => false
theorem PaH.fwdA {c a b : Cht} {m : Nat} (h : PaH c a b m) {u : Nat -> Int} (hu : TrC c tJ u) : TrC a tJ u := by
 have la := h.la
 have hm := h.hm
 refine ⟨λ i hi => ?_, λ g hg => ?_⟩
 ·show (FT a (i : Int)).has (u i)
  rw [h.na i (by omega)]; exact hu.note (by omega)
 ·have e : NT a tJ g = NT c tJ g := by unfold NT; rw [h.fa g (by omega), h.pa]
  rw [e]; exact hu.gap g (by omega)
theorem PaH.fwdB {c a b : Cht} {m : Nat} (h : PaH c a b m) {u : Nat -> Int} (hu : TrC c tJ u) : TrC b tJ λ i => u (m + i) := by
 have lb := h.lb
 have hm := h.hm
 refine ⟨λ i hi => ?_, λ g hg => ?_⟩
 ·show (FT b (i : Int)).has (u (m + i))
  rw [h.nb i (by omega)]; exact hu.note (by omega)
 ·have e : NT b tJ g = NT c tJ (m + g) := by unfold NT; rw [h.fb g (by omega), h.pb]
  rw [e]
  show (NT c tJ (m + g)).has (u (m + (g + 1)) - u (m + g))
  exact hu.gap (m + g) (by omega)
def BKL (m : Nat) (u v : Nat -> Int) (i : Nat) : Int := bif decide (i <= m) then u i else v (i - m)
theorem Gp {m : Nat} {u v : Nat -> Int} {i : Nat} (h : i <= m) : BKL m u v i = u i := by unfold BKL; rw [decide_eq_true h]; rfl
theorem Im {m : Nat} {u v : Nat -> Int} {i : Nat} (e : u m = v 0) : BKL m u v (m + i) = v i := by
 unfold BKL
 cases i with
 | zero => rw [decide_eq_true (show m + 0 <= m by omega)]; exact e
 | succ i => rw [decide_eq_false (show ¬ m + (i + 1) <= m by omega)]; show v (m + (i + 1) - m) = _; rw [show m + (i + 1) - m = i + 1 by omega]
theorem PaH.meet {c a b : Cht} {m : Nat} (h : PaH c a b m) {u v : Nat -> Int} (hu : TrC a tJ u) (hv : TrC b tJ v) : u m = v 0 := by
 obtain ⟨w, hw⟩ := h.ex
 have la := h.la
 have lb := h.lb
 have hm := h.hm
 have q1 := hu.note (i := m) (by omega)
 have q2 := hv.note (i := 0) (by omega)
 rw [h.na m (Nat.le_refl m)] at q1
 rw [h.nb 0 (by omega), Nat.add_zero] at q2
 rw [hw _ q1, hw _ q2]
theorem PaH.join {c a b : Cht} {m : Nat} (h : PaH c a b m) {u v : Nat -> Int} (hu : TrC a tJ u) (hv : TrC b tJ v) : TrC c tJ (BKL m u v) := by
 have e := h.meet hu hv
 have la := h.la
 have lb := h.lb
 have hm := h.hm
 refine ⟨λ i hi => ?_, λ g hg => ?_⟩
 ·show (FT c (i : Int)).has (BKL m u v i)
  by_cases q : i <= m
  ·rw [Gp q, <- h.na i q]; exact hu.note (by omega)
  ·obtain ⟨j, rfl⟩ : ∃ j, i = m + j := ⟨i - m, by omega⟩
   rw [Im e, <- h.nb j (by omega)]; exact hv.note (by omega)
 ·by_cases q : g < m
  ·rw [Gp (show g + 1 <= m by omega), Gp (show g <= m by omega)]
   have e2 : NT a tJ g = NT c tJ g := by unfold NT; rw [h.fa g (by omega), h.pa]
   rw [<- e2]; exact hu.gap g (by omega)
  ·obtain ⟨j, rfl⟩ : ∃ j, g = m + j := ⟨g - m, by omega⟩
   rw [show m + j + 1 = m + (j + 1) by omega, Im e, Im e]
   have e2 : NT b tJ j = NT c tJ (m + j) := by unfold NT; rw [h.fb j (by omega), h.pb]
   rw [<- e2]; exact hv.gap j (by omega)
theorem PaH.okA {c a b : Cht} {m : Nat} (h : PaH c a b m) (hs : stgOk c = true) : stgOk a = true := PT.2 λ i hi => by
 have la := h.la
 have hm := h.hm
 rw [JG] at hi
 have q := CKD hs (i := i) (by omega)
 rw [HF (by omega)] at q
 rw [HF hi, h.sa i (by omega)]; exact q
theorem PaH.okB {c a b : Cht} {m : Nat} (h : PaH c a b m) (hs : stgOk c = true) : stgOk b = true := PT.2 λ i hi => by
 have lb := h.lb
 have hm := h.hm
 rw [JG] at hi
 have q := CKD hs (i := m + i) (by omega)
 rw [HF (by omega)] at q
 rw [HF hi, h.sb i (by omega)]; exact q
theorem PaH.read {c a b : Cht} {m : Nat} (h : PaH c a b m) (hs : stgOk c = true) {u : Nat -> Int} (hu : TrC c tJ u) : AS ⟨c, nilI⟩ = 0 /\ AS ⟨a, nilI⟩ = 0 /\ AS ⟨b, nilI⟩ = 0 :=
 ⟨vF (a := ⟨c, nilI⟩) h.hc (BTG c) hs hu, vF (a := ⟨a, nilI⟩) h.ha (BTG a) (h.okA hs) (h.fwdA hu), vF (a := ⟨b, nilI⟩) h.hb (BTG b) (h.okB hs) (h.fwdB hu)⟩
theorem PaH.timA {c a b : Cht} {m : Nat} (h : PaH c a b m) (hs : stgOk c = true) {u : Nat -> Int} (hu : TrC c tJ u) {i : Nat} (hi : i <= m) : gD (CJ ⟨c, nilI⟩) i = gD (CJ ⟨a, nilI⟩) i := by
 obtain ⟨rc, ra, rb⟩ := h.read hs hu
 have la := h.la
 have hm := h.hm
 have ic : i < c.ms.length := by omega
 have ia : i < a.ms.length := by omega
 refine CFA (BXX (a := ⟨c, nilI⟩) rc ic) (BXX (a := ⟨a, nilI⟩) ra ia) λ x => ?_
 rw [fT (a := ⟨c, nilI⟩) h.hc rc ic, fT (a := ⟨a, nilI⟩) h.ha ra ia]
 constructor
 ·rintro ⟨v, v1, v2⟩; exact ⟨v, h.fwdA v1, v2⟩
 ·rintro ⟨v, v1, v2⟩; exact ⟨_, h.join v1 (h.fwdB hu), by rw [Gp hi]; exact v2⟩
theorem PaH.timB {c a b : Cht} {m : Nat} (h : PaH c a b m) (hs : stgOk c = true) {u : Nat -> Int} (hu : TrC c tJ u) {i : Nat} (hi : m + i < c.ms.length) : gD (CJ ⟨c, nilI⟩) (m + i) = gD (CJ ⟨b, nilI⟩) i := by
 obtain ⟨rc, ra, rb⟩ := h.read hs hu
 have lb := h.lb
 have ib : i < b.ms.length := by omega
 refine CFA (BXX (a := ⟨c, nilI⟩) rc hi) (BXX (a := ⟨b, nilI⟩) rb ib) λ x => ?_
 rw [fT (a := ⟨c, nilI⟩) h.hc rc hi, fT (a := ⟨b, nilI⟩) h.hb rb ib]
 constructor
 ·rintro ⟨v, v1, v2⟩; exact ⟨_, h.fwdB v1, v2⟩
 ·rintro ⟨v, v1, v2⟩; exact ⟨_, h.join (h.fwdA hu) v1, by rw [Im (h.meet (h.fwdA hu) v1)]; exact v2⟩
theorem PaH.stLA {c a b : Cht} {m : Nat} (h : PaH c a b m) {i : Nat} (hi : i <= m) : gD (stgL a) i = gD (stgL c) i := by
 have la := h.la
 have hm := h.hm
 rw [HF (by omega), HF (by omega)]; exact h.sa i hi
theorem PaH.stLB {c a b : Cht} {m : Nat} (h : PaH c a b m) {i : Nat} (hi : m + i < c.ms.length) : gD (stgL b) i = gD (stgL c) (m + i) := by
 have lb := h.lb
 rw [HF (by omega), HF (by omega)]; exact h.sb i hi
theorem Bh {c : Cht} (hr : AS ⟨c, nilI⟩ = 0) (t : Int) : CR ⟨⟨c, nilI⟩, t⟩ = GY (Jf ⟨⟨c, nilI⟩, t⟩) := by unfold CR; rw [show AS (CZI.mk ⟨c, nilI⟩ t).a = 0 from hr]; rfl
theorem PaH.stageA {c a b : Cht} {m : Nat} (h : PaH c a b m) (hs : stgOk c = true) {u : Nat -> Int} (hu : TrC c tJ u) {t : Int} (ht : t <= u m) : CR ⟨⟨c, nilI⟩, t⟩ = CR ⟨⟨a, nilI⟩, t⟩ := by
 obtain ⟨rc, ra, rb⟩ := h.read hs hu
 have la := h.la
 have hm := h.hm
 have um : ∀ v, TrC c tJ v -> v m = u m := λ v hv => (h.meet (h.fwdA hv) (h.fwdB hu)).trans rfl
 rw [Bh rc, Bh ra]
 refine HulIs.uniq (Rf (a := ⟨c, nilI⟩) h.hc rc t) ((Rf (a := ⟨a, nilI⟩) h.ha ra t).ext λ s => ?_)
 constructor
 ·rintro ⟨v, v1, ⟨i, i1, i2, rfl⟩ | ⟨g, g1, ⟨g2, g3⟩, q⟩⟩
  ·have i1 : i < a.ms.length := i1
   exact ⟨_, h.join v1 (h.fwdB hu), .inl ⟨i, by show i < c.ms.length; omega, by rw [Gp (by omega)]; exact i2, h.stLA (by omega)⟩⟩
  ·have g1 : g + 1 < a.ms.length := g1
   refine ⟨_, h.join v1 (h.fwdB hu), .inr ⟨g, by show g + 1 < c.ms.length; omega, ?_, ?_⟩⟩
   ·rw [Gp (by omega), Gp (by omega)]; exact ⟨g2, g3⟩
   ·show s = gD (stgL c) g ∨ s = gD (stgL c) (g + 1)
    rw [<- h.stLA (by omega), <- h.stLA (by omega)]; exact q
 ·rintro ⟨v, v1, ⟨i, i1, i2, rfl⟩ | ⟨g, g1, ⟨g2, g3⟩, q⟩⟩
  ·have i1 : i < c.ms.length := i1
   have im : i <= m := by
    by_cases q : i <= m
    ·exact q
    ·have k := v1.lt h.hc (show m < i by omega) i1
     rw [um v v1] at k; omega
   exact ⟨v, h.fwdA v1, .inl ⟨i, by show i < a.ms.length; omega, i2, (h.stLA im).symm⟩⟩
  ·have g1 : g + 1 < c.ms.length := g1
   have gm : g < m := by
    by_cases q : g < m
    ·exact q
    ·have k := v1.le h.hc (show m <= g by omega) (show g < c.ms.length by omega)
     rw [um v v1] at k; omega
   refine ⟨v, h.fwdA v1, .inr ⟨g, by show g + 1 < a.ms.length; omega, ⟨g2, g3⟩, ?_⟩⟩
   show s = gD (stgL a) g ∨ s = gD (stgL a) (g + 1)
   rw [h.stLA (by omega), h.stLA (by omega)]; exact q
theorem PaH.stageB {c a b : Cht} {m : Nat} (h : PaH c a b m) (hs : stgOk c = true) {u : Nat -> Int} (hu : TrC c tJ u) {t : Int} (ht : u m < t) : CR ⟨⟨c, nilI⟩, t⟩ = CR ⟨⟨b, nilI⟩, t⟩ := by
 obtain ⟨rc, ra, rb⟩ := h.read hs hu
 have lb := h.lb
 have hm := h.hm
 have um : ∀ v, TrC c tJ v -> v m = u m := λ v hv => (h.meet (h.fwdA hv) (h.fwdB hu)).trans rfl
 rw [Bh rc, Bh rb]
 refine HulIs.uniq (Rf (a := ⟨c, nilI⟩) h.hc rc t) ((Rf (a := ⟨b, nilI⟩) h.hb rb t).ext λ s => ?_)
 constructor
 ·rintro ⟨v, v1, ⟨i, i1, i2, rfl⟩ | ⟨g, g1, ⟨g2, g3⟩, q⟩⟩
  ·have i1 : i < b.ms.length := i1
   exact ⟨_, h.join (h.fwdA hu) v1, .inl ⟨m + i, by show m + i < c.ms.length; omega, by rw [Im (h.meet (h.fwdA hu) v1)]; exact i2, h.stLB (by omega)⟩⟩
  ·have g1 : g + 1 < b.ms.length := g1
   refine ⟨_, h.join (h.fwdA hu) v1, .inr ⟨m + g, by show m + g + 1 < c.ms.length; omega, ?_, ?_⟩⟩
   ·rw [show m + g + 1 = m + (g + 1) by omega, Im (h.meet (h.fwdA hu) v1), Im (h.meet (h.fwdA hu) v1)]; exact ⟨g2, g3⟩
   ·show s = gD (stgL c) (m + g) ∨ s = gD (stgL c) (m + (g + 1))
    rw [<- h.stLB (by omega), <- h.stLB (by omega)]; exact q
 ·rintro ⟨v, v1, ⟨i, i1, i2, rfl⟩ | ⟨g, g1, ⟨g2, g3⟩, q⟩⟩
  ·have i1 : i < c.ms.length := i1
   have im : m <= i := by
    by_cases q : m <= i
    ·exact q
    ·have k := v1.lt h.hc (show i < m by omega) hm
     rw [um v v1] at k; omega
   obtain ⟨j, rfl⟩ : ∃ j, i = m + j := ⟨i - m, by omega⟩
   exact ⟨_, h.fwdB v1, .inl ⟨j, by show j < b.ms.length; omega, i2, (h.stLB i1).symm⟩⟩
  ·have g1 : g + 1 < c.ms.length := g1
   have gm : m <= g := by
    by_cases q : m <= g
    ·exact q
    ·have k := v1.le h.hc (show g + 1 <= m by omega) hm
     rw [um v v1] at k; omega
   obtain ⟨j, rfl⟩ : ∃ j, g = m + j := ⟨g - m, by omega⟩
   refine ⟨_, h.fwdB v1, .inr ⟨j, by show j + 1 < b.ms.length; omega, ⟨g2, g3⟩, ?_⟩⟩
   show s = gD (stgL b) j ∨ s = gD (stgL b) (j + 1)
   rw [h.stLB (by omega), h.stLB (by omega)]; exact q
end Go.Bal
