/- Package chart: what is made is read; greatest stages by truths (no program in sight). -/
import Derived.Test.YtdbjalgfomknhaaChT6
import Derived.Test.YtdbjalgfomknhaaChT8
set_option linter.unusedVariables false
set_option linter.unusedSimpArgs false
namespace Go.Bal
open Go Go.Sym Go.Proofs
theorem CLN {a : CZ} (h : ChOk a.c) (hz : okZ a = true) (hs : stgOk a.c = true) {t : Nat -> Int} (ht : TrC a.c (AH a).sp t) : AM a = 0 := by
 unfold AM
 rw [yP.2 h, hz, (Cw (w := AH a) h).2 ⟨hs, t, ht⟩]; rfl
theorem CTQ {c : Cht} (h : stgOk c = true) {i : Nat} (hi : i < c.ms.length) : (gD (stgL c) i).lo <= (gD (stgL c) i).hi := gG.1 h i (by rw [RT]; exact hi)
theorem MadeF.stg {a : MkI} (h : MadeF a) : stgOk (GQ a) = true := gG.2 λ i hi => by
 rw [RT] at hi
 rw [Zj hi]
 exact Int.le_trans (h.st i hi).1 (h.st i hi).2
theorem MadeF.read {a : MkI} (h : MadeF a) {z : List Int} (hz : okZ ⟨GQ a, z⟩ = true) (hs : ∀ g ∈ (qX a).z, g ∈ z) : AM ⟨GQ a, z⟩ = 0 /\ TrC (GQ a) (AH ⟨GQ a, z⟩).sp (gD (qX a).t) := by
 have t := h.tr (AH ⟨GQ a, z⟩).sp λ g hg => (CAR (a := ⟨GQ a, z⟩) h.ok.m hz g).2 (hs _ hg)
 exact ⟨CLN (a := ⟨GQ a, z⟩) h.ok hz h.stg t, t⟩
theorem BOJ (v : Int) {n : Int} (hn : 1 <= n /\ n <= 1000000) : 0 <= FQ v n /\ FQ v n < n := by
 unfold FQ
 rw [if_neg (by omega)]
 have h1 := Int.tmod_lt_of_pos v (show 0 < n by omega)
 have h2 : -n < v.tmod n := by
  have := Int.lt_tmod_of_pos v (show 0 < n by omega)
  omega
 split
 ·have e : wr (v.tmod n + n) = v.tmod n + n := CP (by omega) (by omega)
  rw [e]; omega
 ·omega
theorem CNU {bs : List Int} (h : ∀ i, i < bs.length -> 0 <= gD bs i /\ gD bs i <= 255) {m : Int} {b : Bool} (hm : 1 <= m /\ m <= 14) : preM ⟨⟨bs, 0, 0⟩, m, b⟩ := ⟨⟨⟨Int.le_refl _, Int.le_refl _⟩, ⟨Int.le_refl _, by show (0 : Int) < 251; omega⟩, h⟩, hm⟩
theorem CUU {bs : List Int} (h : ∀ i, i < bs.length -> 0 <= gD bs i /\ gD bs i <= 255) : StmB 0 ⟨bs, 0, 0⟩ := ⟨⟨Int.le_refl _, Int.le_refl _⟩, ⟨Int.le_refl _, by show (0 : Int) < 251; omega⟩, h⟩
end Go.Bal
