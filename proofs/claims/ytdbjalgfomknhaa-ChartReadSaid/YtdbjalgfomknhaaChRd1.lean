/- Law ChartRead: what is asked is so. -/
import Derived.Test.YtdbjalgfomknhaaChRd
import Derived.Test.YtdbjalgfomknhaaChT7
import Derived.Test.YtdbjalgfomknhaaChT9
set_option linter.unusedVariables false
set_option linter.unusedSimpArgs false
namespace Go.Bal
open Go Go.Sym Go.Proofs
structure RdG (a : CZ) (t s : List Int) : Prop where
 ok : ChOk a.c
 rd : FO a = 0
 tr : TrC a.c (JB a).sp (gD t)
 st : ∀ i, i < a.c.ms.length -> (gD (FK a.c) i).lo <= gD s i /\ gD s i <= (gD (FK a.c) i).hi
theorem BAY {a : CZ} {t s : List Int} (h : RdG a t s) {k : Nat} {v lo hi : Int} (hk : k < a.c.ms.length) (q : (gD t k = v /\ lo = gD s k /\ hi = gD s k) ∨ (k + 1 < a.c.ms.length /\ gD t k < v /\ v < gD t (k + 1) /\ lo = PV (gD s k) (gD s (k + 1)) /\ hi = GV (gD s k) (gD s (k + 1)))) :
  (bif bif (RJ (CZI.mk a v)).2 != 0 then true else decide ((RJ (CZI.mk a v)).1.lo > lo) then true else decide ((RJ (CZI.mk a v)).1.hi < hi)) = true -> true = false := by
 have I := BHV h.ok h.rd v
 have e : RJ (CZI.mk a v) = Kt (iA (CZI.mk a v)) := by unfold RJ; rw [show FO (CZI.mk a v).a = 0 from h.rd]; rfl
 have fin : (RJ (CZI.mk a v)).2 = 0 /\ (RJ (CZI.mk a v)).1.lo <= lo /\ hi <= (RJ (CZI.mk a v)).1.hi := by
  rw [e]
  rcases I.who with ⟨_, e1, e2, _⟩ | ⟨no, _⟩
  ·rw [e2]
   rcases q with ⟨q1, q2, q3⟩ | ⟨q0, q1, q2, q3, q4⟩
   ·have := I.2 _ ⟨gD t, h.tr, .inl ⟨k, hk, q1, rfl⟩⟩
    have := h.st k hk
    exact ⟨e1, by omega, by omega⟩
   ·have s1 := I.2 _ ⟨gD t, h.tr, .inr ⟨k, q0, ⟨by omega, by omega⟩, .inl rfl⟩⟩
    have s2 := I.2 _ ⟨gD t, h.tr, .inr ⟨k, q0, ⟨by omega, by omega⟩, .inr rfl⟩⟩
    have := h.st k hk
    have := h.st (k + 1) q0
    have m1 := AVJ (gD s k) (gD s (k + 1))
    have m2 := AWB (gD s k) (gD s (k + 1))
    exact ⟨e1, by omega, by omega⟩
  ·rcases q with ⟨q1, _⟩ | ⟨q0, q1, q2, _⟩
   ·exact absurd ⟨gD t, h.tr, .inl ⟨k, hk, q1, rfl⟩⟩ (no _)
   ·exact absurd ⟨gD t, h.tr, .inr ⟨k, q0, ⟨by omega, by omega⟩, .inl rfl⟩⟩ (no _)
 rw [fin.1, decide_eq_false (show ¬(RJ (CZI.mk a v)).1.lo > lo by omega), decide_eq_false (show ¬(RJ (CZI.mk a v)).1.hi < hi by omega)]
 intro h; cases h
theorem BPL (t s : List Int) (f o : Int) : ∀ k, ((pbK t s f o k).b = false -> ∀ i, i < k -> ¬(f <= gD t i /\ gD t i <= o)) /\ ((pbK t s f o k).b = true -> (∃ i, i < k /\ (f <= gD t i /\ gD t i <= o) /\ (pbK t s f o k).v = gD s i) /\ ∀ i, i < k -> (f <= gD t i /\ gD t i <= o) -> gD s i <= (pbK t s f o k).v)
 | 0 => ⟨λ _ i h => absurd h (Nat.not_lt_zero _), λ h => by cases h⟩
 | k + 1 => by
  obtain ⟨h1, h2⟩ := BPL t s f o k
  unfold pbK
  generalize pbK t s f o k = P at *
  by_cases c : f <= gD t k /\ gD t k <= o
  ·rw [decide_eq_true (show gD t k >= f from c.1), decide_eq_true c.2]
   refine ⟨λ h => (by cases h), λ _ => ?_⟩
   cases hb : P.b with
   | false =>
    have n := h1 hb
    refine ⟨⟨k, Nat.lt_succ_self _, c, rfl⟩, λ i hi w => ?_⟩
    rcases Nat.lt_or_ge i k with q | q
    ·exact absurd w (n i q)
    ·obtain rfl : i = k := by omega
     exact Int.le_refl _
   | true =>
    obtain ⟨⟨j, j1, j2, j3⟩, j4⟩ := h2 hb
    by_cases d : gD s k > P.v
    ·rw [decide_eq_true d]
     refine ⟨⟨k, Nat.lt_succ_self _, c, rfl⟩, λ i hi w => ?_⟩
     show gD s i <= gD s k
     rcases Nat.lt_or_ge i k with q | q
     ·have := j4 i q w; omega
     ·obtain rfl : i = k := by omega
      exact Int.le_refl _
    ·rw [decide_eq_false d]
     refine ⟨⟨j, by omega, j2, j3⟩, λ i hi w => ?_⟩
     show gD s i <= P.v
     rcases Nat.lt_or_ge i k with q | q
     ·exact j4 i q w
     ·obtain rfl : i = k := by omega
      omega
  ·have e : (bif decide (gD t k >= f) then decide (gD t k <= o) else false) = false := by
    by_cases c1 : gD t k >= f
    ·rw [decide_eq_true c1, decide_eq_false (show ¬gD t k <= o from λ q => c ⟨c1, q⟩)]; rfl
    ·rw [decide_eq_false c1]; rfl
   rw [e]
   refine ⟨λ h i hi w => ?_, λ h => ?_⟩
   ·rcases Nat.lt_or_ge i k with q | q
    ·exact h1 h i q w
    ·obtain rfl : i = k := by omega
     exact c w
   ·obtain ⟨⟨j, j1, j2, j3⟩, j4⟩ := h2 h
    refine ⟨⟨j, by omega, j2, j3⟩, λ i hi w => ?_⟩
    rcases Nat.lt_or_ge i k with q | q
    ·exact j4 i q w
    ·obtain rfl : i = k := by omega
     exact absurd w c
theorem BKV {a : CZ} {t s : List Int} (h : RdG a t s) {f o : Int} (hfo : f <= o) {P : PkB} (hP : P = pbK t s f o a.c.ms.length) :
  (bif bif P.b then bif bif (SX (CZ2.mk a f o)).2 != 0 then true else decide (P.v < (SX (CZ2.mk a f o)).1.lo) then true else decide (P.v > (SX (CZ2.mk a f o)).1.hi) else false then true else bif bif !P.b then (SX (CZ2.mk a f o)).2 != 0 else false then (SX (CZ2.mk a f o)).2 != 5 else false) = true -> true = false := by
 subst hP
 have e : SX (CZ2.mk a f o) = Kt (vV (CZ2.mk a f o) a.c.ms.length) := by
  unfold SX F8
  rw [show FO (CZ2.mk a f o).a = 0 from h.rd, show decide ((CZ2.mk a f o).t < (CZ2.mk a f o).f) = false from decide_eq_false (by show ¬ o < f; omega)]; rfl
 have I := BJY (x := CZ2.mk a f o) h.ok h.rd hfo
 obtain ⟨p1, p2⟩ := BPL t s f o a.c.ms.length
 generalize pbK t s f o a.c.ms.length = P at *
 cases hb : P.b with
 | false =>
  have : (SX (CZ2.mk a f o)).2 = 0 ∨ (SX (CZ2.mk a f o)).2 = 5 := by
   rw [e]
   rcases I.who with ⟨_, e1, _⟩ | ⟨_, e1⟩
   ·exact .inl e1
   ·right; rw [show Kt (vV (CZ2.mk a f o) a.c.ms.length) = _ from e1]
  rcases this with q | q <;> rw [q] <;> intro h <;> cases h
 | true =>
  obtain ⟨⟨k, k1, k2, k3⟩, k4⟩ := p2 hb
  obtain ⟨i, j, i1, i2, i3, i4⟩ := h.tr.window h.ok k1 k2
  have S := I.2 _ ⟨gD t, h.tr, i, j, by omega, i3, i4, rfl⟩
  have fin : (SX (CZ2.mk a f o)).2 = 0 /\ (SX (CZ2.mk a f o)).1.lo <= P.v /\ P.v <= (SX (CZ2.mk a f o)).1.hi := by
   obtain ⟨a1, m, m1, m2⟩ := BTF (l := Pm (CZ2.mk a f o) i j) (by rw [ACV]; omega)
   obtain ⟨b1, _⟩ := BSB (l := Pm (CZ2.mk a f o) i j) (by rw [ACV]; omega)
   rw [ACV] at m1
   have w1 := (i4 (i + m) (show i + m < a.c.ms.length by omega)).2 ⟨by omega, by omega⟩
   have q1 := k4 (i + m) (by omega) w1
   have q2 := h.st (i + m) (by omega)
   have q3 := h.st k k1
   have q4 := b1 (k - i) (by rw [ACV]; omega)
   rw [BFZ _ (show k - i < j + 1 - i by omega), show i + (k - i) = k by omega] at q4
   rw [BFZ _ m1] at m2
   have q4 : (gD (FK a.c) k).hi <= gHi (Pm (CZ2.mk a f o) i j) := q4
   have m2 : gLo (Pm (CZ2.mk a f o) i j) = (gD (FK a.c) (i + m)).lo := m2
   obtain ⟨S0, S1, S2⟩ := S
   have S1 : (vV (CZ2.mk a f o) a.c.ms.length).s.lo <= gLo (Pm (CZ2.mk a f o) i j) := S1
   have S2 : gHi (Pm (CZ2.mk a f o) i j) <= (vV (CZ2.mk a f o) a.c.ms.length).s.hi := S2
   rw [e]
   rcases I.who with ⟨_, e1, e2, _⟩ | ⟨no, _⟩
   ·have e2 : (Kt (vV (CZ2.mk a f o) a.c.ms.length)).1 = (vV (CZ2.mk a f o) a.c.ms.length).s := e2
    rw [e2]
    exact ⟨e1, by omega, by omega⟩
   ·exact absurd ⟨gD t, h.tr, i, j, by omega, i3, i4, rfl⟩ (no _)
  rw [fin.1, decide_eq_false (show ¬P.v < (SX (CZ2.mk a f o)).1.lo by omega), decide_eq_false (show ¬P.v > (SX (CZ2.mk a f o)).1.hi by omega)]
  intro h; cases h
theorem BHA (s : List Int) (lim : Int) : ∀ k, (fiK s lim k < 0 -> ∀ i, i < k -> gD s i < lim) /\ (0 <= fiK s lim k -> ∃ i : Nat, i < k /\ fiK s lim k = (i : Int) /\ lim <= gD s i /\ ∀ j, j < i -> gD s j < lim)
 | 0 => ⟨λ _ i h => absurd h (Nat.not_lt_zero _), λ h => absurd h (by show ¬(0 : Int) <= -1; omega)⟩
 | k + 1 => by
  obtain ⟨h1, h2⟩ := BHA s lim k
  unfold fiK
  generalize fiK s lim k = K at *
  by_cases c : K < 0
  ·rw [decide_eq_true c]
   by_cases d : gD s k >= lim
   ·rw [decide_eq_true d]
    refine ⟨λ h => absurd h (by show ¬(k : Int) < 0; omega), λ _ => ⟨k, Nat.lt_succ_self _, rfl, d, h1 c⟩⟩
   ·rw [decide_eq_false d]
    refine ⟨λ _ i hi => ?_, λ h => absurd c (by have h : 0 <= K := h; omega)⟩
    rcases Nat.lt_or_ge i k with q | q
    ·exact h1 c i q
    ·obtain rfl : i = k := by omega
     omega
  ·rw [decide_eq_false c]
   refine ⟨λ h => absurd h c, λ _ => ?_⟩
   obtain ⟨i, i1, i2, i3, i4⟩ := h2 (by omega)
   exact ⟨i, by omega, i2, i3, i4⟩
theorem AYS {a : CZ} {t s : List Int} (h : RdG a t s) {lim K : Int} (hK : K = fiK s lim a.c.ms.length) (h0 : K >= 0) : (0 <= K /\ K < a.c.ms.length) /\ true = bif bif bif (JP (CZI.mk a lim)).e == 0 then decide (gD t K.toNat >= (JP (CZI.mk a lim)).s.lo) else false then decide (gD t K.toNat <= (JP (CZI.mk a lim)).s.hi) else false then true else false := by
 subst hK
 obtain ⟨i, i1, i2, i3, i4⟩ := (BHA s lim a.c.ms.length).2 h0
 have hle : ∀ i, i < a.c.ms.length -> (gD (FK a.c) i).lo <= (gD (FK a.c) i).hi := λ i hi => by have := h.st i hi; omega
 have I := (BCO (x := CZI.mk a lim) hle a.c.ms.length (Nat.le_refl _)).1
 have q1 := h.st i i1
 have M : FsS a lim a.c.ms.length (gD (UD a) i) := ⟨i, i1, rfl, by omega, λ j hj => by have := h.st j (by omega); have := i4 j hj; omega⟩
 have S := I.2 _ M
 have T := (wK h.ok h.rd i1).2 ⟨gD t, h.tr, rfl⟩
 have e : JP (CZI.mk a lim) = fsV (CZI.mk a lim) := by unfold JP; rw [show FO (CZI.mk a lim).a = 0 from h.rd]; rfl
 have fin : (JP (CZI.mk a lim)).e = 0 /\ (JP (CZI.mk a lim)).s.lo <= gD t i /\ gD t i <= (JP (CZI.mk a lim)).s.hi := by
  rw [e]
  rcases I.who with ⟨_, e1, e2, _⟩ | ⟨no, _⟩
  ·have e2 : (fsV (CZI.mk a lim)).s = (In (CZI.mk a lim) a.c.ms.length).1.s := e2
   rw [e2]
   have T : (gD (UD a) i).lo <= gD t i /\ gD t i <= (gD (UD a) i).hi := T
   exact ⟨e1, by omega, by omega⟩
  ·exact absurd M (no _)
 rw [i2, Int.toNat_natCast, fin.1, decide_eq_true (show gD t i >= (JP (CZI.mk a lim)).s.lo by omega), decide_eq_true fin.2.2]
 exact ⟨⟨by omega, by omega⟩, rfl⟩
theorem AZH {a : CZ} {t s : List Int} (h : RdG a t s) {lim K : Int} (hK : K = fiK s lim a.c.ms.length) (h0 : ¬K >= 0) : true = bif bif (JP (CZI.mk a lim)).e == 5 then true else bif (JP (CZI.mk a lim)).e == 0 then !(JP (CZI.mk a lim)).b else false then true else false := by
 subst hK
 have n := (BHA s lim a.c.ms.length).1 (by omega)
 obtain ⟨f1, _, f3⟩ := AUI (x := CZI.mk a lim) h.ok h.rd
 rcases f1 with q | q
 ·have : (JP (CZI.mk a lim)).b = false := by
   cases hb : (JP (CZI.mk a lim)).b with
   | false => rfl
   | true =>
    obtain ⟨i, i1, i2⟩ := f3.1 hb
    have i2 : lim <= (gD (FK a.c) i).lo := i2
    have := h.st i i1
    have := n i i1
    omega
  rw [q, this]; rfl
 ·rw [q]; rfl
theorem BKA {a : CZ} {t s : List Int} (h : RdG a t s) (hz : okZ a = true) (tl : t.length = a.c.ms.length) (sl : s.length = a.c.ms.length) : Ox ⟨a.c, ⟨t, s, a.z⟩⟩ = (true, 0) /\ SU a.c = (FK a.c, 0) /\ D5 a = (UD a, 0) /\ (Hh a.c).e = 0 /\ (Hh a.c).q.length <= a.z.length := by
 obtain ⟨q1, q2⟩ := BGJ (x := ⟨a.c, ⟨t, s, a.z⟩⟩) h.ok hz tl sl (λ i hi => h.tr.bd h.ok hi)
 have hs : Hn a.c = true := H6.2 λ i hi => by
  rw [Sx] at hi
  have := h.st i hi; omega
 have q3 : (Ox ⟨a.c, ⟨t, s, a.z⟩⟩).1 = true := q2.2 ⟨h.tr, λ i hi => by rw [<- ANB hi]; exact h.st i hi⟩
 have f := BLT h.ok hs h.tr
 refine ⟨Prod.ext q3 q1, by unfold SU; rw [iQ.2 h.ok, hs]; rfl, by unfold D5; rw [h.rd]; rfl, f.1, ?_⟩
 rw [f.2.1]
 exact AZE h.ok h.tr λ g hg => (AOL (a := a) h.ok.m hz g).1 hg
end Go.Bal
