/- Law ChartParted: the chart with an exact note, and its two parts (no program in sight). -/
import Derived.Test.YtdbjalgfomknhaaChPa1
set_option linter.unusedVariables false
set_option linter.unusedSimpArgs false
namespace Go.Bal
open Go Go.Sym Go.Proofs
def nwC (c : Cht) (e : Nt) : Cht := ⟨c.p, c.base, c.scale, c.off, c.ms, (c.ns.filter λ n => n.mi != e.mi) ++ [e]⟩
def fsC (c : Cht) (k : Nat) : Cht := ⟨c.p, c.base, c.scale, c.off, AE (k + 1) λ i => gD c.ms i, c.ns.filter λ n => decide (n.mi <= (k : Int))⟩
def snC (c : Cht) (k : Nat) : Cht := ⟨c.p, c.base, c.scale, c.off, AE (c.ms.length - k) λ i => gD c.ms (k + i), (c.ns.filter λ n => decide (n.mi >= (k : Int))).map (dnN k)⟩
theorem A1 (c : Cht) (k : Nat) : (fsC c k).ms.length = k + 1 := rng_length _ _
theorem C7 (c : Cht) (k : Nat) : (snC c k).ms.length = c.ms.length - k := rng_length _ _
theorem AFB (c : Cht) {k i : Nat} (h : i <= k) : gD (fsC c k).ms i = gD c.ms i := BH _ _ _ (by omega)
theorem Q4 (c : Cht) {k i : Nat} (h : k + i < c.ms.length) : gD (snC c k).ms i = gD c.ms (k + i) := BH _ _ _ (by omega)
theorem BPQ {c : Cht} {e n : Nt} : n ∈ (nwC c e).ns ↔ (n ∈ c.ns /\ n.mi ≠ e.mi) ∨ n = e := by
 unfold nwC
 show n ∈ (c.ns.filter λ n => n.mi != e.mi) ++ [e] ↔ _
 rw [List.mem_append, List.mem_filter, List.mem_singleton]
 simp
theorem CCJ {c : Cht} {e : Nt} (h : Dif c.ns) : Dif (nwC c e).ns := by
 unfold Dif nwC
 show List.Pairwise _ ((c.ns.filter λ n => n.mi != e.mi) ++ [e])
 rw [List.pairwise_append]
 refine ⟨h.filter _, List.pairwise_singleton _ _, λ a ha b hb => ?_⟩
 rw [List.mem_filter] at ha
 rw [List.mem_singleton] at hb
 subst hb
 simpa using ha.2
theorem DAP {c : Cht} (h : ChOk c) {e : Nt} (he : NtOk c.ms.length e) (hl : c.ns.length <= 19) : ChOk (nwC c e) := by
 refine ⟨h.m, ?_, h.p, h.b, h.sc, h.of, h.mks, h.up, λ n hn => ?_, E3.1 (CCJ h.dif)⟩
 ·show ((c.ns.filter λ n => n.mi != e.mi) ++ [e]).length <= 20
  have := List.length_filter_le (λ n : Nt => n.mi != e.mi) c.ns
  rw [List.length_append, List.length_singleton]; omega
 ·rcases BPQ.1 hn with ⟨q, _⟩ | q
  ·exact h.nt n q
  ·subst q; exact he
theorem CTP {c : Cht} (h : Dif c.ns) (e : Nt) {i : Nat} (hi : (i : Int) ≠ e.mi) : FT (nwC c e) i = FT c i /\ DZ (nwC c e) i = DZ c i :=
 AGX h (CCJ h) (λ n hn hm => ⟨n, BPQ.2 (.inl ⟨hn, by omega⟩), hm, rfl, rfl⟩) (λ q hq hm => by
  rcases BPQ.1 hq with ⟨a, _⟩ | a
  ·exact ⟨q, a, hm⟩
  ·subst a; omega) rfl rfl rfl rfl
theorem nw_e {c : Cht} (h : Dif c.ns) (e : Nt) : FT (nwC c e) e.mi = e.t /\ DZ (nwC c e) e.mi = fG (st0 c e.mi) e.s := by
 have m : e ∈ (nwC c e).ns := BPQ.2 (.inr rfl)
 unfold FT DZ
 rw [Da.2 ⟨e, m, rfl⟩, (CCJ h).ntOf m]
 exact ⟨rfl, rfl⟩
theorem BWK {k : Nat} {n : Nt} (h : (k : Int) <= n.mi /\ n.mi <= 1000) : (dnN k n).mi = n.mi - k := FC (by omega) (by omega)
theorem BZH {c : Cht} {k : Nat} {n : Nt} : n ∈ (fsC c k).ns ↔ n ∈ c.ns /\ n.mi <= (k : Int) := by
 unfold fsC
 show n ∈ (c.ns.filter λ n => decide (n.mi <= (k : Int))) ↔ _
 rw [List.mem_filter]; simp
theorem CAP {c : Cht} {k : Nat} {q : Nt} : q ∈ (snC c k).ns ↔ ∃ n, (n ∈ c.ns /\ (k : Int) <= n.mi) /\ dnN k n = q := by
 unfold snC
 show q ∈ (c.ns.filter λ n => decide (n.mi >= (k : Int))).map (dnN k) ↔ _
 rw [List.mem_map]
 simp only [List.mem_filter, decide_eq_true_eq, ge_iff_le]
theorem CYM {c : Cht} (h : ChOk c) {k : Nat} (hk : k < c.ms.length) : ChOk (fsC c k) := by
 have hm := h.m
 refine ⟨by rw [A1]; omega, ?_, h.p, h.b, h.sc, h.of, λ i hi => ?_, λ i hi => ?_, λ n hn => ?_, E3.1 (h.dif.filter _)⟩
 ·have := List.length_filter_le (λ n : Nt => decide (n.mi <= (k : Int))) c.ns
  have := h.n
  show (c.ns.filter λ n => decide (n.mi <= (k : Int))).length <= 20
  omega
 ·rw [A1] at hi
  rw [AFB c (by omega)]; exact h.mks i (by omega)
 ·rw [A1] at hi
  rw [AFB c (by omega), AFB c (by omega)]; exact h.up i (by omega)
 ·obtain ⟨a, b⟩ := BZH.1 hn
  have q := h.nt n a
  exact ⟨⟨q.mi.1, by rw [A1]; omega⟩, q.t, q.s⟩
theorem CNM {c : Cht} (h : ChOk c) {k : Nat} : Dif (snC c k).ns := by
 have hm := h.m
 unfold Dif snC
 show List.Pairwise _ ((c.ns.filter λ n => decide (n.mi >= (k : Int))).map (dnN k))
 rw [List.pairwise_map]
 refine List.Pairwise.imp_of_mem (λ {a b} ha hb hab => ?_) (h.dif.filter _)
 rw [List.mem_filter] at ha hb
 have a1 := (h.nt a ha.1).mi
 have b1 := (h.nt b hb.1).mi
 have a2 : (k : Int) <= a.mi := by simpa using ha.2
 have b2 : (k : Int) <= b.mi := by simpa using hb.2
 rw [BWK ⟨a2, by omega⟩, BWK ⟨b2, by omega⟩]; omega
theorem CYC {c : Cht} (h : ChOk c) {k : Nat} (hk : k < c.ms.length) : ChOk (snC c k) := by
 have hm := h.m
 refine ⟨by rw [C7]; omega, ?_, h.p, h.b, h.sc, h.of, λ i hi => ?_, λ i hi => ?_, λ q hq => ?_, E3.1 (CNM h)⟩
 ·have := List.length_filter_le (λ n : Nt => decide (n.mi >= (k : Int))) c.ns
  have := h.n
  show ((c.ns.filter λ n => decide (n.mi >= (k : Int))).map (dnN k)).length <= 20
  rw [List.length_map]; omega
 ·rw [C7] at hi
  rw [Q4 c (by omega)]; exact h.mks _ (by omega)
 ·rw [C7] at hi
  rw [Q4 c (by omega), Q4 c (by omega)]; exact h.up (k + i) (by omega)
 ·obtain ⟨n, ⟨a, b⟩, rfl⟩ := CAP.1 hq
  have q := h.nt n a
  have qm := q.mi
  exact ⟨by rw [BWK ⟨b, by omega⟩, C7]; omega, q.t, q.s⟩
theorem prH {c : Cht} (h : ChOk c) {k : Nat} (hk : k < c.ms.length) (ex : ∃ v, ∀ x, (FT c k).has x -> x = v) : PaH c (fsC c k) (snC c k) k := by
 have hm := h.m
 have fA : ∀ i : Nat, i <= k -> FT (fsC c k) i = FT c i /\ DZ (fsC c k) i = DZ c i := λ i hi =>
  AGX h.dif (h.dif.filter _) (λ n hn q => ⟨n, BZH.2 ⟨hn, by omega⟩, q, rfl, rfl⟩) (λ q hq e => ⟨q, (BZH.1 hq).1, e⟩) rfl rfl rfl (AFB c hi)
 have fB : ∀ i : Nat, k + i < c.ms.length -> FT (snC c k) i = FT c ((k + i : Nat) : Int) /\ DZ (snC c k) i = DZ c ((k + i : Nat) : Int) := λ i hi =>
  AGX h.dif (CNM h) (λ n hn q => ⟨dnN k n, CAP.2 ⟨n, ⟨hn, by omega⟩, rfl⟩, by rw [BWK ⟨by omega, by omega⟩]; omega, rfl, rfl⟩) (λ q hq e => by
   obtain ⟨n, ⟨a, b⟩, rfl⟩ := CAP.1 hq
   have qm := (h.nt n a).mi
   rw [BWK ⟨b, by omega⟩] at e
   exact ⟨n, a, by omega⟩) rfl rfl rfl (Q4 c hi)
 refine ⟨h, CYM h hk, CYC h hk, hk, A1 c k, C7 c k, rfl, rfl, λ g hg => ?_, λ g hg => ?_, λ i hi => (fA i hi).1, λ i hi => (fB i hi).1, λ i hi => (fA i hi).2, λ i hi => (fB i hi).2, ex⟩
 ·unfold JC; rw [AFB c (by omega), AFB c (by omega)]
 ·unfold JC; rw [Q4 c (by omega), Q4 c (by omega)]; rfl
theorem CZJ {c : Cht} (h : ChOk c) {sp : Nat -> Bool} {t : Nat -> Int} (ht : TrC c sp t) {e : Nt} {k : Nat} (hk : e.mi = k) (hkl : k < c.ms.length) (he : e.t.has (t k)) : TrC (nwC c e) sp t := by
 refine ⟨λ i hi => ?_, λ g hg => ht.gap g hg⟩
 show (FT (nwC c e) i).has (t i)
 by_cases q : i = k
 ·subst q; rw [<- hk, (nw_e h.dif e).1]; exact he
 ·rw [(CTP h.dif e (by omega)).1]; exact ht.at_ i hi
theorem CVF {c : Cht} (h : ChOk c) {s : Nat -> Int} (hs : ∀ i, i < c.ms.length -> (DZ c i).has (s i)) {e : Nt} {k : Nat} (hk : e.mi = k) (hkl : k < c.ms.length) (he : e.s.has (s k)) : stgOk (nwC c e) = true := PT.2 λ i hi => by
 rw [JG] at hi
 have hi : i < c.ms.length := hi
 have K : ∀ {a : Span} {x : Int}, a.has x -> a.lo <= a.hi := λ h => Int.le_trans h.1 h.2
 rw [HF (c := nwC c e) hi]
 by_cases q : i = k
 ·subst q
  refine K (x := s i) ?_
  rw [<- hk, (nw_e h.dif e).2, NY]
  refine ⟨?_, he⟩
  have := hs i hi
  rw [hk]
  unfold DZ at this
  revert this
  cases hasN c.ns (i : Int)
  ·exact λ z => z
  ·exact λ z => (NY.1 z).1
 ·rw [(CTP h.dif e (by omega)).2]; exact K (hs i hi)
end Go.Bal
