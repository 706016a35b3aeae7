/- Package chart: what is made is read; greatest stages by truths (no program in sight). -/
import Derived.Test.YtdbjalgfomknhaaChT6
import Derived.Test.YtdbjalgfomknhaaChT8
set_option linter.unusedVariables false
set_option linter.unusedSimpArgs false
namespace Go.Bal
open Go Go.Sym Go.Proofs
theorem readE_of {a : CZ} (h : ChOk a.c) (hz : okZ a = true) (hs : stgOk a.c = true) {t : Nat -> Int} (ht : TrC a.c (begD a).sp t) : readE a = 0 := by
 unfold readE
 rw [good_iff.2 h, hz, (times_ok (w := begD a) h).2 ⟨hs, t, ht⟩]; rfl
theorem stg_le {c : Cht} (h : stgOk c = true) {i : Nat} (hi : i < c.ms.length) : (gD (stgL c) i).lo <= (gD (stgL c) i).hi := all_leM.1 h i (by rw [stgL_len]; exact hi)
theorem MadeF.stg {a : MkI} (h : MadeF a) : stgOk (mdC a) = true := all_leM.2 λ i hi => by
 rw [stgL_len] at hi
 rw [stgL_at hi]
 exact Int.le_trans (h.st i hi).1 (h.st i hi).2
theorem MadeF.read {a : MkI} (h : MadeF a) {z : List Int} (hz : okZ ⟨mdC a, z⟩ = true) (hs : ∀ g ∈ (mdT a).z, g ∈ z) : readE ⟨mdC a, z⟩ = 0 /\ TrC (mdC a) (begD ⟨mdC a, z⟩).sp (gD (mdT a).t) := by
 have t := h.tr (begD ⟨mdC a, z⟩).sp λ g hg => (begD_sp (a := ⟨mdC a, z⟩) h.ok.m hz g).2 (hs _ hg)
 exact ⟨readE_of (a := ⟨mdC a, z⟩) h.ok hz h.stg t, t⟩
theorem pick_in (v : Int) {n : Int} (hn : 1 <= n /\ n <= 1000000) : 0 <= pickV v n /\ pickV v n < n := by
 unfold pickV
 rw [if_neg (by omega)]
 have h1 := Int.tmod_lt_of_pos v (show 0 < n by omega)
 have h2 : -n < v.tmod n := by
  have := Int.lt_tmod_of_pos v (show 0 < n by omega)
  omega
 split
 ·have e : wr (v.tmod n + n) = v.tmod n + n := w64 (by omega) (by omega)
  rw [e]; omega
 ·omega
theorem preM_of {bs : List Int} (h : ∀ i, i < bs.length -> 0 <= gD bs i /\ gD bs i <= 255) {m : Int} {b : Bool} (hm : 1 <= m /\ m <= 14) : preM ⟨⟨bs, 0, 0⟩, m, b⟩ := ⟨⟨⟨Int.le_refl _, Int.le_refl _⟩, ⟨Int.le_refl _, by show (0 : Int) < 251; omega⟩, h⟩, hm⟩
theorem sli_all {x : CZ2} (h : 1 <= x.a.c.ms.length) : sliS x 0 (x.a.c.ms.length - 1) = stgL x.a.c := by
 refine gD_ext (by rw [sli_len, stgL_len]; omega) λ i hi => ?_
 rw [sli_len] at hi
 rw [sli_at x hi, Nat.zero_add]
theorem peak_fact {x : CZ2} (h : ChOk x.a.c) (hr : readE x.a = 0) (ht : x.f <= x.t) :
  ((peakV x).2 = 0 /\ (peakV x).1.lo <= (peakV x).1.hi /\ (∃ u, TrC x.a.c (begD x.a).sp u /\ ∃ k, k < x.a.c.ms.length /\ (x.f <= u k /\ u k <= x.t) /\ (gD (stgL x.a.c) k).hi = (peakV x).1.hi) /\ ∀ u, TrC x.a.c (begD x.a).sp u -> ∀ k, k < x.a.c.ms.length -> x.f <= u k /\ u k <= x.t -> (gD (stgL x.a.c) k).hi <= (peakV x).1.hi)
  ∨ (peakV x = (⟨0, 0⟩, 5) /\ ∀ u, TrC x.a.c (begD x.a).sp u -> ∀ k, k < x.a.c.ms.length -> ¬ (x.f <= u k /\ u k <= x.t)) := by
 have hm := h.m
 have e : peakV x = whoM (pkO x x.a.c.ms.length) := by
  unfold peakV peakO; rw [hr, decide_eq_false (show ¬ x.t < x.f by omega)]; rfl
 have hI := peak_is h hr ht
 have hle : ∀ i, i < x.a.c.ms.length -> (gD (stgL x.a.c) i).lo <= (gD (stgL x.a.c) i).hi := λ i hi => stg_le ((times_ok (w := begD x.a) h).1 (readE_0 hr).2.2).1 hi
 have gl : ∀ i j, i <= j -> j < x.a.c.ms.length -> gLo (sliS x i j) <= gHi (sliS x i j) := λ i j h1 h2 => by
  obtain ⟨a1, k, k1, k2⟩ := gLo_is (l := sliS x i j) (by rw [sli_len]; omega)
  obtain ⟨b1, _⟩ := gHi_is (l := sliS x i j) (by rw [sli_len]; omega)
  have := b1 k k1
  rw [k2]
  rw [sli_len] at k1
  rw [sli_at x k1] at this ⊢
  have := hle (i + k) (by omega)
  omega
 rw [e]
 rcases hI.who with ⟨_, e1, e2, hm⟩ | ⟨no, e1⟩
 ·refine .inl ⟨e1, ?_, ?_, ?_⟩
  ·rw [e2]
   obtain ⟨⟨s, ⟨u, u1, i, j, h1, h2, h3, h4⟩, s2⟩, _⟩ := hI.1 hm
   have := (hI.2 s ⟨u, u1, i, j, h1, h2, h3, h4⟩).2.2
   have g := gl i j h1 h2
   rw [h4] at s2 this
   have s2 : gLo (sliS x i j) = (pkO x x.a.c.ms.length).s.lo := s2
   have this : gHi (sliS x i j) <= (pkO x x.a.c.ms.length).s.hi := this
   omega
  ·rw [e2]
   obtain ⟨_, s, ⟨u, u1, i, j, h1, h2, h3, h4⟩, s2⟩ := hI.1 hm
   obtain ⟨_, k, k1, k2⟩ := gHi_is (l := sliS x i j) (by rw [sli_len]; omega)
   rw [sli_len] at k1
   rw [sli_at x k1] at k2
   rw [h4] at s2
   exact ⟨u, u1, i + k, by omega, (h3 (i + k) (by omega)).2 (by omega), k2.symm.trans s2⟩
  ·intro u u1 k hk hw
   rw [e2]
   obtain ⟨i, j, h1, h2, h3, h4⟩ := u1.window h hk hw
   have q := (hI.2 _ ⟨u, u1, i, j, by omega, h3, h4, rfl⟩).2.2
   obtain ⟨b1, _⟩ := gHi_is (l := sliS x i j) (by rw [sli_len]; omega)
   have b := b1 (k - i) (by rw [sli_len]; omega)
   rw [sli_at x (by omega), show i + (k - i) = k by omega] at b
   have q : gHi (sliS x i j) <= (pkO x x.a.c.ms.length).s.hi := q
   omega
 ·refine .inr ⟨e1, λ u u1 k hk hw => ?_⟩
  obtain ⟨i, j, h1, h2, h3, h4⟩ := u1.window h hk hw
  exact no _ ⟨u, u1, i, j, by omega, h3, h4, rfl⟩
theorem peak_all {x : CZ2} (h : ChOk x.a.c) (hr : readE x.a = 0) (hf : x.f <= -100000000) (ht : 100000000 <= x.t) : peakV x = (⟨gLo (stgL x.a.c), gHi (stgL x.a.c)⟩, 0) := by
 have hm := h.m
 have e : peakV x = whoM (pkO x x.a.c.ms.length) := by
  unfold peakV peakO; rw [hr, decide_eq_false (show ¬ x.t < x.f by omega)]; rfl
 have hI := peak_is h hr (show x.f <= x.t by omega)
 obtain ⟨t, ht0⟩ := ((times_ok (w := begD x.a) h).1 (readE_0 hr).2.2).2
 have hJ : HulIs ⟨⟨gLo (stgL x.a.c), gHi (stgL x.a.c)⟩, true⟩ (PkS x) := by
  have all : ∀ u, TrC x.a.c (begD x.a).sp u -> ∀ k, k < x.a.c.ms.length -> x.f <= u k /\ u k <= x.t := λ u hu k hk => by
   have := hu.bd h hk; omega
  have mem : PkS x ⟨gLo (stgL x.a.c), gHi (stgL x.a.c)⟩ := ⟨t, ht0, 0, x.a.c.ms.length - 1, Nat.zero_le _, by omega, λ i hi => ⟨λ _ => by omega, λ _ => all t ht0 i hi⟩, by rw [sli_all hm.1]⟩
  refine ⟨λ _ => ⟨⟨_, mem, rfl⟩, _, mem, rfl⟩, λ s ⟨u, u1, i, j, h1, h2, h3, h4⟩ => ?_⟩
  have w0 := (h3 0 (by omega)).1 (all u u1 0 (by omega))
  have wn := (h3 (x.a.c.ms.length - 1) (by omega)).1 (all u u1 _ (by omega))
  obtain rfl : i = 0 := by omega
  obtain rfl : j = x.a.c.ms.length - 1 := by omega
  rw [sli_all hm.1] at h4
  subst h4
  exact ⟨rfl, Int.le_refl _, Int.le_refl _⟩
 rw [e, hI.uniq hJ]; rfl
theorem first_fact {x : CZI} (h : ChOk x.a.c) (hr : readE x.a = 0) : ((firstV x).e = 0 ∨ (firstV x).e = 5) /\ ((firstV x).e = 0 ↔ ∃ i, i < x.a.c.ms.length /\ x.t <= (gD (stgL x.a.c) i).hi) /\ ((firstV x).b = true ↔ ∃ i, i < x.a.c.ms.length /\ x.t <= (gD (stgL x.a.c) i).lo) := by
 have hle : ∀ i, i < x.a.c.ms.length -> (gD (stgL x.a.c) i).lo <= (gD (stgL x.a.c) i).hi := λ i hi => stg_le ((times_ok (w := begD x.a) h).1 (readE_0 hr).2.2).1 hi
 obtain ⟨hI, hb⟩ := fs_is hle x.a.c.ms.length (Nat.le_refl _)
 have ex := FsS_ex (t := x.t) hle x.a.c.ms.length (Nat.le_refl _)
 have e : firstV x = fsV x := by unfold firstV; rw [hr]; rfl
 rw [e]
 rcases hI.who with ⟨q, e1, _, _⟩ | ⟨no, e1⟩
 ·have h0 : (fsV x).e = 0 := e1
  refine ⟨.inl h0, ⟨λ _ => ex.1 q, λ _ => h0⟩, ?_⟩
  have : (fsV x).b = (fsM x x.a.c.ms.length).2 := by
   show (bif (fsM x x.a.c.ms.length).2 then (whoM (fsM x x.a.c.ms.length).1).2 == 0 else false) = _
   rw [e1]; cases (fsM x x.a.c.ms.length).2 <;> rfl
  rw [this, hb]
 ·have h0 : (fsV x).e = 5 := by show (whoM (fsM x x.a.c.ms.length).1).2 = 5; rw [e1]
  have n1 : ¬ ∃ i, i < x.a.c.ms.length /\ x.t <= (gD (stgL x.a.c) i).hi := λ q => let ⟨s, hs⟩ := ex.2 q; no s hs
  refine ⟨.inr h0, ⟨λ q => (by rw [h0] at q; cases q), λ q => absurd q n1⟩, ?_⟩
  have n2 : ¬ ∃ i, i < x.a.c.ms.length /\ x.t <= (gD (stgL x.a.c) i).lo := λ ⟨i, h1, h2⟩ => n1 ⟨i, h1, Int.le_trans h2 (hle i h1)⟩
  have : (fsV x).b = false := by
   show (bif (fsM x x.a.c.ms.length).2 then (whoM (fsM x x.a.c.ms.length).1).2 == 0 else false) = _
   rw [e1]; cases (fsM x x.a.c.ms.length).2 <;> rfl
  rw [this]
  exact ⟨λ q => (by cases q), λ q => absurd q n2⟩
theorem gLo_ge {l : List Span} (h : 0 < l.length) {v : Int} : gLo l >= v ↔ ∃ i, i < l.length /\ v <= (gD l i).lo := by
 obtain ⟨a, i, b, c⟩ := gLo_is h
 exact ⟨λ q => ⟨i, b, by rw [<- c]; exact q⟩, λ ⟨j, j1, j2⟩ => Int.le_trans j2 (a j j1)⟩
theorem gHi_ge {l : List Span} (h : 0 < l.length) {v : Int} : gHi l >= v ↔ ∃ i, i < l.length /\ v <= (gD l i).hi := by
 obtain ⟨a, i, b, c⟩ := gHi_is h
 exact ⟨λ q => ⟨i, b, by rw [<- c]; exact q⟩, λ ⟨j, j1, j2⟩ => Int.le_trans j2 (a j j1)⟩
end Go.Bal
