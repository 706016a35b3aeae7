/- Package chart: what is made is read; greatest stages by truths (no program in sight). -/
import Derived.Test.YtdbjalgfomknhaaChT6
import Derived.Test.YtdbjalgfomknhaaChT7
set_option linter.unusedVariables false
set_option linter.unusedSimpArgs false
namespace Go.Bal
open Go Go.Sym Go.Proofs
theorem xV {a : CZ} (h : ChOk a.c) (hz : okZ a = true) (hs : stgOk a.c = true) {t : Nat -> Int} (ht : TrC a.c (AI a).sp t) : AR a = 0 := by
 unfold AR
 rw [BBA.2 h, hz, (tY (w := AI a) h).2 ⟨hs, t, ht⟩]; rfl
theorem CJL {c : Cht} (h : stgOk c = true) {i : Nat} (hi : i < c.ms.length) : (gD (stgL c) i).lo <= (gD (stgL c) i).hi := PM.1 h i (by rw [JA]; exact hi)
theorem MadeF.stg {a : MkI} (h : MadeF a) : stgOk (HC a) = true := PM.2 λ i hi => by
 rw [JA] at hi
 rw [HD hi]
 exact Int.le_trans (h.st i hi).1 (h.st i hi).2
theorem MadeF.read {a : MkI} (h : MadeF a) {z : List Int} (hz : okZ ⟨HC a, z⟩ = true) (hs : ∀ g ∈ (sX a).z, g ∈ z) : AR ⟨HC a, z⟩ = 0 /\ TrC (HC a) (AI ⟨HC a, z⟩).sp (gD (sX a).t) := by
 have t := h.tr (AI ⟨HC a, z⟩).sp λ g hg => (COK (a := ⟨HC a, z⟩) h.ok.m hz g).2 (hs _ hg)
 exact ⟨xV (a := ⟨HC a, z⟩) h.ok hz h.stg t, t⟩
theorem CDG (v : Int) {n : Int} (hn : 1 <= n /\ n <= 1000000) : 0 <= JS v n /\ JS v n < n := by
 unfold JS
 rw [if_neg (by omega)]
 have h1 := Int.tmod_lt_of_pos v (show 0 < n by omega)
 have h2 : -n < v.tmod n := by
  have := Int.lt_tmod_of_pos v (show 0 < n by omega)
  omega
 split
 ·have e : wr (v.tmod n + n) = v.tmod n + n := FH (by omega) (by omega)
  rw [e]; omega
 ·omega
theorem COM {bs : List Int} (h : ∀ i, i < bs.length -> 0 <= gD bs i /\ gD bs i <= 255) {m : Int} {b : Bool} (hm : 1 <= m /\ m <= 14) : preM ⟨⟨bs, 0, 0⟩, m, b⟩ := ⟨⟨⟨Int.le_refl _, Int.le_refl _⟩, ⟨Int.le_refl _, by show (0 : Int) < 251; omega⟩, h⟩, hm⟩
theorem CVB {bs : List Int} (h : ∀ i, i < bs.length -> 0 <= gD bs i /\ gD bs i <= 255) : StmB 0 ⟨bs, 0, 0⟩ := ⟨⟨Int.le_refl _, Int.le_refl _⟩, ⟨Int.le_refl _, by show (0 : Int) < 251; omega⟩, h⟩
end Go.Bal

namespace Go.Bal
open Go Go.Sym Go.Proofs
def shS (d : Int) (s : Span) : Span := ⟨s.lo + d, s.hi + d⟩
theorem BUE {d x : Int} {s : Span} : (shS d s).has x ↔ s.has (x - d) := by
 unfold shS Span.has
 show s.lo + d <= x /\ x <= s.hi + d ↔ _
 omega
structure LaH (c o : Cht) (on up : Int) : Prop where
 hc : ChOk c
 ho : ChOk o
 ms : o.ms = c.ms
 p : o.p = c.p
 stg : ∀ i, i < c.ms.length -> DY o i = shS up (DY c i)
 has : ∀ j, hasN o.ns j = hasN c.ns j
 nt : ∀ j, hasN c.ns j = true -> FU o j = shS on (FU c j)
 some : ∃ m : Nat, m < c.ms.length /\ hasN c.ns m = true /\ 0 <= (FU c m).lo /\ (FU c m).hi <= 100000
 ph : c.p.hi <= 17
 onb : 0 <= on /\ on <= 100000
theorem near {c : Cht} (h : ChOk c) (hp : c.p.hi <= 17) {u : Nat -> Int} (hu : TrC c (λ _ => false) u) {i j : Nat} (hi : i < c.ms.length) (hj : j < c.ms.length) : u i - u j <= 170000 := by
 have p1 := h.p
 rcases Nat.lt_or_ge i j with q | q
 ·have := hu.le h (Nat.le_of_lt q) hj; omega
 ·have a := hu.upto q hi (λ _ _ _ => rfl)
  have b := (h.pl_in hj hi).1
  have c0 := h.pl_le q hi
  have m : c.p.hi * (plC c i - plC c j) <= 17 * 10000 := Int.mul_le_mul hp b (by omega) (by omega)
  rw [Int.mul_sub] at m
  omega
theorem LaH.fwd {c o : Cht} {on up : Int} (h : LaH c o on up) {u : Nat -> Int} (hu : TrC c (λ _ => false) u) : TrC o (λ _ => false) λ i => u i + on := by
 obtain ⟨m, m1, m2, m3, m4⟩ := h.some
 have onb := h.onb
 have um := hu.note m1
 unfold Span.has at um
 refine ⟨λ i hi => ?_, λ g hg => ?_⟩
 ·rw [h.ms] at hi
  have hm := h.hc.m
  have hi : i < c.ms.length := by omega
  show (FU o (i : Int)).has (u i + on)
  cases e : hasN c.ns (i : Int) with
  | true => rw [h.nt _ e, BUE, show u i + on - on = u i by omega]; exact hu.note hi
  | false =>
   rw [(CDS h.ho (i : Int)).2 (by rw [h.has]; exact e)]
   have a := near h.hc h.ph hu hi m1
   have b := near h.hc h.ph hu m1 hi
   show -100000000 <= u i + on /\ u i + on <= 100000000
   omega
 ·rw [h.ms] at hg
  have q := hu.gap g hg
  have e : ME o (λ _ => false) g = ME c (λ _ => false) g := by unfold ME IZ; rw [h.ms, h.p]
  rw [e]
  show (ME c (λ _ => false) g).has (u (g + 1) + on - (u g + on))
  rw [show u (g + 1) + on - (u g + on) = u (g + 1) - u g by omega]; exact q
theorem LaH.bwd {c o : Cht} {on up : Int} (h : LaH c o on up) {u : Nat -> Int} (hu : TrC o (λ _ => false) u) : TrC c (λ _ => false) λ i => u i - on := by
 obtain ⟨m, m1, m2, m3, m4⟩ := h.some
 have onb := h.onb
 have m1o : m < o.ms.length := by rw [h.ms]; exact m1
 have um := hu.note m1o
 rw [h.nt _ m2, BUE] at um
 unfold Span.has at um
 have ph : o.p.hi <= 17 := by rw [h.p]; exact h.ph
 refine ⟨λ i hi => ?_, λ g hg => ?_⟩
 ·have hm := h.hc.m
  have hi : i < c.ms.length := by omega
  have hio : i < o.ms.length := by rw [h.ms]; exact hi
  show (FU c (i : Int)).has (u i - on)
  cases e : hasN c.ns (i : Int) with
  | true => rw [<- BUE, <- h.nt _ e]; exact hu.note hio
  | false =>
   rw [(CDS h.hc (i : Int)).2 e]
   have a := near h.ho ph hu hio m1o
   have b := near h.ho ph hu m1o hio
   show -100000000 <= u i - on /\ u i - on <= 100000000
   omega
 ·have q := hu.gap g (by rw [h.ms]; exact hg)
  have e : ME o (λ _ => false) g = ME c (λ _ => false) g := by unfold ME IZ; rw [h.ms, h.p]
  rw [e] at q
  show (ME c (λ _ => false) g).has (u (g + 1) - on - (u g - on))
  rw [show u (g + 1) - on - (u g - on) = u (g + 1) - u g by omega]; exact q
theorem BUQ (c : Cht) : okZ ⟨c, nilI⟩ = true := rfl
theorem LaH.stgOk {c o : Cht} {on up : Int} (h : LaH c o on up) : stgOk o = Bal.stgOk c := by
 rw [Bool.eq_iff_iff]
 unfold Bal.stgOk
 rw [PM, PM, JA, JA, h.ms]
 have e : ∀ i, i < c.ms.length -> ((gD (stgL o) i).lo <= (gD (stgL o) i).hi ↔ (gD (stgL c) i).lo <= (gD (stgL c) i).hi) := λ i hi => by
  rw [HD (c := o) (by rw [h.ms]; exact hi), HD hi, h.stg i hi]
  show (DY c i).lo + up <= (DY c i).hi + up ↔ _
  omega
 exact ⟨λ q i hi => (e i hi).1 (q i hi), λ q i hi => (e i hi).2 (q i hi)⟩
theorem LaH.read {c o : Cht} {on up : Int} (h : LaH c o on up) : AR ⟨o, nilI⟩ = AR ⟨c, nilI⟩ := by
 have e : (AU (AI ⟨o, nilI⟩)).2 = (AU (AI ⟨c, nilI⟩)).2 := by
  rw [Bool.eq_iff_iff, tY (w := AI ⟨o, nilI⟩) h.ho, tY (w := AI ⟨c, nilI⟩) h.hc]
  show Bal.stgOk o = true /\ (∃ t, TrC o (λ _ => false) t) ↔ Bal.stgOk c = true /\ ∃ t, TrC c (λ _ => false) t
  rw [h.stgOk]
  exact ⟨λ ⟨a, t, b⟩ => ⟨a, _, h.bwd b⟩, λ ⟨a, t, b⟩ => ⟨a, _, h.fwd b⟩⟩
 unfold AR
 rw [e, show AK (CZ.mk o nilI).c = 0 from BBA.2 h.ho, show AK (CZ.mk c nilI).c = 0 from BBA.2 h.hc]
 rfl
theorem LaH.stgL {c o : Cht} {on up : Int} (h : LaH c o on up) {i : Nat} (hi : i < c.ms.length) : gD (Bal.stgL o) i = shS up (gD (Bal.stgL c) i) := by
 rw [HD (c := o) (by rw [h.ms]; exact hi), HD hi, h.stg i hi]
structure SameL (c o : Cht) : Prop where
 len : o.ns.length = c.ns.length
 mi : ∀ i, (gD o.ns i).mi = (gD c.ns i).mi
 late : ∀ a b : Nat, a < c.ns.length -> b < c.ns.length -> PI o ⟨a, b⟩ = PI c ⟨a, b⟩
theorem SameL.ord {c o : Cht} (h : SameL c o) : BA o = BA c := by
 unfold BA
 rw [h.len, show IC o = IC c from funext λ x => h.mi _]
theorem ARI {p q : Int -> Bool} : ∀ {l : List Int}, (∀ x ∈ l, p x = q x) -> l.find? p = l.find? q
 | [], _ => rfl
 | y :: l, h => by
  have h1 := h y (List.mem_cons_self ..)
  have h2 := ARI (l := l) λ x hx => h x (List.mem_cons_of_mem _ hx)
  rw [List.find?_cons, List.find?_cons, h1, h2]
theorem SameL.fw {c o : Cht} (h : SameL c o) : ∀ k, k <= c.ns.length -> DA o k = DA c k
 | 0, _ => rfl
 | k + 1, hk => by
  have ih := h.fw k (by omega)
  have eN : ∀ s b x, fwN o s b x = fwN c s b x := λ s b x => by
   cases x with
   | none => rfl
   | some a => unfold fwN miA; rw [h.mi]
  have eP : ((BA c).take k).find? (fwP o (DA c k).la (gD (BA c) k)) = ((BA c).take k).find? (fwP c (DA c k).la (gD (BA c) k)) := ARI λ a ha => by
   obtain ⟨i, hi, e⟩ := PE ha
   rw [List.length_take, BXO] at hi
   rw [dC (show i < k by omega)] at e
   obtain ⟨a1, a2, a3⟩ := CDP c (show i < c.ns.length by omega)
   obtain ⟨b1, b2, b3⟩ := CDP c (show k < c.ns.length by omega)
   rw [<- e, a3, b3]
   unfold fwP miA
   rw [h.mi, h.late a1 b1 a2 b2]
  show fwN o (DA o k) (gD (BA o) k) (((BA o).take k).find? (fwP o (DA o k).la (gD (BA o) k))) = fwN c (DA c k) (gD (BA c) k) (((BA c).take k).find? (fwP c (DA c k).la (gD (BA c) k)))
  rw [ih, h.ord, eP, eN]
end Go.Bal
