/- Package chart: what is made is read; greatest stages by truths (no program in sight). -/
import Derived.Test.YtdbjalgfomknhaaChT6
import Derived.Test.YtdbjalgfomknhaaChT8
import Derived.Test.YtdbjalgfomknhaaChO
set_option linter.unusedVariables false
set_option linter.unusedSimpArgs false
namespace Go.Bal
open Go Go.Sym Go.Proofs
theorem BCR {a : CZ} (h : ChOk a.c) (hz : okZ a = true) (hs : Hn a.c = true) {t : Nat -> Int} (ht : TrC a.c (JB a).sp t) : FO a = 0 := by
 unfold FO
 rw [iQ.2 h, hz, (K6 (w := JB a) h).2 ⟨hs, t, ht⟩]; rfl
theorem BQY {c : Cht} (h : Hn c = true) {i : Nat} (hi : i < c.ms.length) : (gD (FK c) i).lo <= (gD (FK c) i).hi := H6.1 h i (by rw [Sx]; exact hi)
theorem MadeF.stg {a : MkI} (h : MadeF a) : Hn (XB a) = true := H6.2 λ i hi => by
 rw [Sx] at hi
 rw [ANB hi]
 exact Int.le_trans (h.st i hi).1 (h.st i hi).2
theorem MadeF.read {a : MkI} (h : MadeF a) {z : List Int} (hz : okZ ⟨XB a, z⟩ = true) (hs : ∀ g ∈ (F2 a).z, g ∈ z) : FO ⟨XB a, z⟩ = 0 /\ TrC (XB a) (JB ⟨XB a, z⟩).sp (gD (F2 a).t) := by
 have t := h.tr (JB ⟨XB a, z⟩).sp λ g hg => (AOL (a := ⟨XB a, z⟩) h.ok.m hz g).2 (hs _ hg)
 exact ⟨BCR (a := ⟨XB a, z⟩) h.ok hz h.stg t, t⟩
theorem BJH (v : Int) {n : Int} (hn : 1 <= n /\ n <= 1000000) : 0 <= ZS v n /\ ZS v n < n := by
 unfold ZS
 rw [if_neg (by omega)]
 have h1 := Int.tmod_lt_of_pos v (show 0 < n by omega)
 have h2 : -n < v.tmod n := by
  have := Int.lt_tmod_of_pos v (show 0 < n by omega)
  omega
 split
 ·have e : wr (v.tmod n + n) = v.tmod n + n := NU (by omega) (by omega)
  rw [e]; omega
 ·omega
theorem BKU {bs : List Int} (h : ∀ i, i < bs.length -> 0 <= gD bs i /\ gD bs i <= 255) {m : Int} {b : Bool} (hm : 1 <= m /\ m <= 14) : preM ⟨⟨bs, 0, 0⟩, m, b⟩ := ⟨⟨⟨Int.le_refl _, Int.le_refl _⟩, ⟨Int.le_refl _, by show (0 : Int) < 251; omega⟩, h⟩, hm⟩
theorem AUI {x : CZI} (h : ChOk x.a.c) (hr : FO x.a = 0) : ((JP x).e = 0 ∨ (JP x).e = 5) /\ ((JP x).e = 0 ↔ ∃ i, i < x.a.c.ms.length /\ x.t <= (gD (FK x.a.c) i).hi) /\ ((JP x).b = true ↔ ∃ i, i < x.a.c.ms.length /\ x.t <= (gD (FK x.a.c) i).lo) := by
 have hle : ∀ i, i < x.a.c.ms.length -> (gD (FK x.a.c) i).lo <= (gD (FK x.a.c) i).hi := λ i hi => BQY ((K6 (w := JB x.a) h).1 (Vl hr).2.2).1 hi
 obtain ⟨hI, hb⟩ := BCO hle x.a.c.ms.length (Nat.le_refl _)
 have ex := BTB (t := x.t) hle x.a.c.ms.length (Nat.le_refl _)
 have e : JP x = fsV x := by unfold JP; rw [hr]; rfl
 rw [e]
 rcases hI.who with ⟨q, e1, _, _⟩ | ⟨no, e1⟩
 ·have h0 : (fsV x).e = 0 := e1
  refine ⟨.inl h0, ⟨λ _ => ex.1 q, λ _ => h0⟩, ?_⟩
  have : (fsV x).b = (In x x.a.c.ms.length).2 := by
   show (bif (In x x.a.c.ms.length).2 then (Kt (In x x.a.c.ms.length).1).2 == 0 else false) = _
   rw [e1]; cases (In x x.a.c.ms.length).2 <;> rfl
  rw [this, hb]
 ·have h0 : (fsV x).e = 5 := by show (Kt (In x x.a.c.ms.length).1).2 = 5; rw [e1]
  have n1 : ¬ ∃ i, i < x.a.c.ms.length /\ x.t <= (gD (FK x.a.c) i).hi := λ q => let ⟨s, hs⟩ := ex.2 q; no s hs
  refine ⟨.inr h0, ⟨λ q => (by rw [h0] at q; cases q), λ q => absurd q n1⟩, ?_⟩
  have n2 : ¬ ∃ i, i < x.a.c.ms.length /\ x.t <= (gD (FK x.a.c) i).lo := λ ⟨i, h1, h2⟩ => n1 ⟨i, h1, Int.le_trans h2 (hle i h1)⟩
  have : (fsV x).b = false := by
   show (bif (In x x.a.c.ms.length).2 then (Kt (In x x.a.c.ms.length).1).2 == 0 else false) = _
   rw [e1]; cases (In x x.a.c.ms.length).2 <;> rfl
  rw [this]
  exact ⟨λ q => (by cases q), λ q => absurd q n2⟩
end Go.Bal

namespace Go.Bal
open Go Go.Sym Go.Proofs
theorem ArcOk.ext2 {N M s : Nat -> Span} {n : Nat} (h : ArcOk N s n) (e : ∀ i, i <= n -> N i = M i) : ArcOk M s n := by
 refine ⟨λ i hi => by rw [<- e i hi]; exact h.ne i hi, λ g hg x hx => ?_, λ g hg y hy => ?_⟩
 ·rw [<- e (g + 1) (by omega)]; exact h.up g hg x (by rw [e g (by omega)]; exact hx)
 ·obtain ⟨x, h1, h2⟩ := h.down g hg y (by rw [e (g + 1) (by omega)]; exact hy)
  exact ⟨x, by rw [<- e g (by omega)]; exact h1, h2⟩
theorem AXZ (x : CT) : ∀ n, hdN x n = true ↔ ∀ k, k < n -> hd1 x k = true
 | 0 => ⟨λ _ k h => absurd h (Nat.not_lt_zero _), λ _ => rfl⟩
 | n + 1 => by
  show (hdN x n && hd1 x n) = true ↔ _
  rw [Bool.and_eq_true, AXZ x n]
  constructor
  ·rintro ⟨h1, h2⟩ k hk
   rcases Nat.lt_or_ge k n with q | q
   ·exact h1 k q
   ·obtain rfl : k = n := by omega
    exact h2
  ·intro h; exact ⟨λ k hk => h k (by omega), h n (Nat.lt_succ_self _)⟩
theorem AVV (x : CT) : ∀ n, hgN x n = true ↔ ∀ k, k < n -> hg1 x k = true
 | 0 => ⟨λ _ k h => absurd h (Nat.not_lt_zero _), λ _ => rfl⟩
 | n + 1 => by
  show (hgN x n && hg1 x n) = true ↔ _
  rw [Bool.and_eq_true, AVV x n]
  constructor
  ·rintro ⟨h1, h2⟩ k hk
   rcases Nat.lt_or_ge k n with q | q
   ·exact h1 k q
   ·obtain rfl : k = n := by omega
    exact h2
  ·intro h; exact ⟨λ k hk => h k (by omega), h n (Nat.lt_succ_self _)⟩
theorem BGJ {x : CT} (h : ChOk x.c) (hz : okZ ⟨x.c, x.t.z⟩ = true) (l1 : x.t.t.length = x.c.ms.length) (l2 : x.t.s.length = x.c.ms.length) (hb : ∀ i, i < x.c.ms.length -> -100000000 <= gD x.t.t i /\ gD x.t.t i <= 100000000) :
  (Ox x).2 = 0 /\ ((Ox x).1 = true ↔ TrC x.c (JB ⟨x.c, x.t.z⟩).sp (gD x.t.t) /\ ∀ i, i < x.c.ms.length -> (Qr x.c i).has (gD x.t.s i)) := by
 have hm := h.m
 have e0 : Na (ctZ x) = 0 := by
  have : okZ (ctZ x) = true := hz
  unfold Na; rw [show BS (ctZ x).c = 0 from iQ.2 h, this]; rfl
 have e1 : inT x.t.t = true := List.all_eq_true.2 λ a ha => by
  obtain ⟨i, hi, rfl⟩ := QG ha
  exact IS.2 (hb i (by omega))
 have e2 : Ox x = (hdN x x.c.ms.length && hgN x (x.c.ms.length - 1), 0) := by
  unfold Ox hldO; rw [e0, decide_eq_true (show x.t.t.length = x.c.ms.length /\ x.t.s.length = x.c.ms.length from ⟨l1, l2⟩), e1]; rfl
 rw [e2]
 refine ⟨rfl, ?_⟩
 show (hdN x x.c.ms.length && hgN x (x.c.ms.length - 1)) = true ↔ _
 rw [Bool.and_eq_true, AXZ, AVV]
 have a1 : ∀ i, i < x.c.ms.length -> (hd1 x i = true ↔ (Pv x.c i).has (gD x.t.t i) /\ (Qr x.c i).has (gD x.t.s i)) := λ i hi => by
  unfold hd1
  rw [Bool.and_eq_true, IS, IS, ADF hi]; exact Iff.rfl
 have a2 : ∀ g, g < x.c.ms.length - 1 -> (hg1 x g = true ↔ (yE x.c (JB ⟨x.c, x.t.z⟩).sp g).has (gD x.t.t (g + 1) - gD x.t.t g)) := λ g hg => by
  have q1 := hb g (by omega)
  have q2 := hb (g + 1) (by omega)
  have w : wr (gD x.t.t (g + 1) - gD x.t.t g) = gD x.t.t (g + 1) - gD x.t.t g := NU (by omega) (by omega)
  unfold hg1
  rw [IS, w]
  have e := Po (w := JB (ctZ x)) h (g := g) (by show g + 1 < x.c.ms.length; omega)
  rw [e]; exact Iff.rfl
 constructor
 ·rintro ⟨h1, h2⟩
  exact ⟨⟨λ i hi => ((a1 i (by omega)).1 (h1 i (by omega))).1, λ g hg => (a2 g hg).1 (h2 g hg)⟩, λ i hi => ((a1 i hi).1 (h1 i hi)).2⟩
 ·rintro ⟨h1, h2⟩
  exact ⟨λ i hi => (a1 i hi).2 ⟨h1.note hi, h2 i hi⟩, λ g hg => (a2 g hg).2 (h1.gap g hg)⟩
end Go.Bal
