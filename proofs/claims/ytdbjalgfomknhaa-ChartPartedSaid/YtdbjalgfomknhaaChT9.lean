/- Package chart: what is made is read; greatest stages by truths (no program in sight). -/
import Derived.Test.YtdbjalgfomknhaaChT6
import Derived.Test.YtdbjalgfomknhaaChT7
set_option linter.unusedVariables false
set_option linter.unusedSimpArgs false
namespace Go.Bal
open Go Go.Sym Go.Proofs
theorem vF {a : CZ} (h : ChOk a.c) (hz : okZ a = true) (hs : stgOk a.c = true) {t : Nat -> Int} (ht : TrC a.c (AI a).sp t) : AS a = 0 := by
 unfold AS
 rw [AXS.2 h, hz, (A0 (w := AI a) h).2 ⟨hs, t, ht⟩]; rfl
theorem CKD {c : Cht} (h : stgOk c = true) {i : Nat} (hi : i < c.ms.length) : (gD (stgL c) i).lo <= (gD (stgL c) i).hi := PT.1 h i (by rw [JG]; exact hi)
theorem MadeF.stg {a : MkI} (h : MadeF a) : stgOk (HG a) = true := PT.2 λ i hi => by
 rw [JG] at hi
 rw [HF hi]
 exact Int.le_trans (h.st i hi).1 (h.st i hi).2
theorem MadeF.read {a : MkI} (h : MadeF a) {z : List Int} (hz : okZ ⟨HG a, z⟩ = true) (hs : ∀ g ∈ (tK a).z, g ∈ z) : AS ⟨HG a, z⟩ = 0 /\ TrC (HG a) (AI ⟨HG a, z⟩).sp (gD (tK a).t) := by
 have t := h.tr (AI ⟨HG a, z⟩).sp λ g hg => (CRA (a := ⟨HG a, z⟩) h.ok.m hz g).2 (hs _ hg)
 exact ⟨vF (a := ⟨HG a, z⟩) h.ok hz h.stg t, t⟩
theorem CEK (v : Int) {n : Int} (hn : 1 <= n /\ n <= 1000000) : 0 <= KH v n /\ KH v n < n := by
 unfold KH
 rw [if_neg (by omega)]
 have h1 := Int.tmod_lt_of_pos v (show 0 < n by omega)
 have h2 : -n < v.tmod n := by
  have := Int.lt_tmod_of_pos v (show 0 < n by omega)
  omega
 split
 ·have e : wr (v.tmod n + n) = v.tmod n + n := FC (by omega) (by omega)
  rw [e]; omega
 ·omega
theorem COS {bs : List Int} (h : ∀ i, i < bs.length -> 0 <= gD bs i /\ gD bs i <= 255) {m : Int} {b : Bool} (hm : 1 <= m /\ m <= 14) : preM ⟨⟨bs, 0, 0⟩, m, b⟩ := ⟨⟨⟨Int.le_refl _, Int.le_refl _⟩, ⟨Int.le_refl _, by show (0 : Int) < 251; omega⟩, h⟩, hm⟩
theorem CWE {bs : List Int} (h : ∀ i, i < bs.length -> 0 <= gD bs i /\ gD bs i <= 255) : StmB 0 ⟨bs, 0, 0⟩ := ⟨⟨Int.le_refl _, Int.le_refl _⟩, ⟨Int.le_refl _, by show (0 : Int) < 251; omega⟩, h⟩
end Go.Bal

namespace Go.Bal
open Go Go.Sym Go.Proofs
def shS (d : Int) (s : Span) : Span := ⟨s.lo + d, s.hi + d⟩
theorem BOW {d x : Int} {s : Span} : (shS d s).has x ↔ s.has (x - d) := by
 unfold shS Span.has
 show s.lo + d <= x /\ x <= s.hi + d ↔ _
 omega
structure LaH (c o : Cht) (on up : Int) : Prop where
 hc : ChOk c
 ho : ChOk o
 ms : o.ms = c.ms
 p : o.p = c.p
 stg : ∀ i, i < c.ms.length -> DZ o i = shS up (DZ c i)
 has : ∀ j, hasN o.ns j = hasN c.ns j
 nt : ∀ j, hasN c.ns j = true -> FT o j = shS on (FT c j)
 some : ∃ m : Nat, m < c.ms.length /\ hasN c.ns m = true /\ 0 <= (FT c m).lo /\ (FT c m).hi <= 100000
 ph : c.p.hi <= 17
 onb : 0 <= on /\ on <= 100000
theorem near {c : Cht} (h : ChOk c) (hp : c.p.hi <= 17) {u : Nat -> Int} (hu : TrC c (λ _ => false) u) {i j : Nat} (hi : i < c.ms.length) (hj : j < c.ms.length) : u i - u j <= 170000 := by
 have p1 := h.p
 rcases Nat.lt_or_ge i j with q | q
 ·have := hu.le h (Nat.le_of_lt q) hj; omega
 ·have a := hu.upto q hi (λ _ _ _ => rfl)
  have b := (h.pl_in hj hi).1
  have c0 := h.pl_le q hi
  have m : c.p.hi * (plC c i - plC c j) <= 17 * 10000 := Int.mul_le_mul hp b (by omega) (by omega)
  rw [Int.mul_sub] at m
  omega
theorem LaH.fwd {c o : Cht} {on up : Int} (h : LaH c o on up) {u : Nat -> Int} (hu : TrC c (λ _ => false) u) : TrC o (λ _ => false) λ i => u i + on := by
 obtain ⟨m, m1, m2, m3, m4⟩ := h.some
 have onb := h.onb
 have um := hu.note m1
 unfold Span.has at um
 refine ⟨λ i hi => ?_, λ g hg => ?_⟩
 ·rw [h.ms] at hi
  have hm := h.hc.m
  have hi : i < c.ms.length := by omega
  show (FT o (i : Int)).has (u i + on)
  cases e : hasN c.ns (i : Int) with
  | true => rw [h.nt _ e, BOW, show u i + on - on = u i by omega]; exact hu.note hi
  | false =>
   rw [(CFB h.ho (i : Int)).2 (by rw [h.has]; exact e)]
   have a := near h.hc h.ph hu hi m1
   have b := near h.hc h.ph hu m1 hi
   show -100000000 <= u i + on /\ u i + on <= 100000000
   omega
 ·rw [h.ms] at hg
  have q := hu.gap g hg
  have e : NT o (λ _ => false) g = NT c (λ _ => false) g := by unfold NT JC; rw [h.ms, h.p]
  rw [e]
  show (NT c (λ _ => false) g).has (u (g + 1) + on - (u g + on))
  rw [show u (g + 1) + on - (u g + on) = u (g + 1) - u g by omega]; exact q
theorem LaH.bwd {c o : Cht} {on up : Int} (h : LaH c o on up) {u : Nat -> Int} (hu : TrC o (λ _ => false) u) : TrC c (λ _ => false) λ i => u i - on := by
 obtain ⟨m, m1, m2, m3, m4⟩ := h.some
 have onb := h.onb
 have m1o : m < o.ms.length := by rw [h.ms]; exact m1
 have um := hu.note m1o
 rw [h.nt _ m2, BOW] at um
 unfold Span.has at um
 have ph : o.p.hi <= 17 := by rw [h.p]; exact h.ph
 refine ⟨λ i hi => ?_, λ g hg => ?_⟩
 ·have hm := h.hc.m
  have hi : i < c.ms.length := by omega
  have hio : i < o.ms.length := by rw [h.ms]; exact hi
  show (FT c (i : Int)).has (u i - on)
  cases e : hasN c.ns (i : Int) with
  | true => rw [<- BOW, <- h.nt _ e]; exact hu.note hio
  | false =>
   rw [(CFB h.hc (i : Int)).2 e]
   have a := near h.ho ph hu hio m1o
   have b := near h.ho ph hu m1o hio
   show -100000000 <= u i - on /\ u i - on <= 100000000
   omega
 ·have q := hu.gap g (by rw [h.ms]; exact hg)
  have e : NT o (λ _ => false) g = NT c (λ _ => false) g := by unfold NT JC; rw [h.ms, h.p]
  rw [e] at q
  show (NT c (λ _ => false) g).has (u (g + 1) - on - (u g - on))
  rw [show u (g + 1) - on - (u g - on) = u (g + 1) - u g by omega]; exact q
theorem BTG (c : Cht) : okZ ⟨c, nilI⟩ = true := rfl
theorem LaH.stgOk {c o : Cht} {on up : Int} (h : LaH c o on up) : stgOk o = Bal.stgOk c := by
 rw [Bool.eq_iff_iff]
 unfold Bal.stgOk
 rw [PT, PT, JG, JG, h.ms]
 have e : ∀ i, i < c.ms.length -> ((gD (stgL o) i).lo <= (gD (stgL o) i).hi ↔ (gD (stgL c) i).lo <= (gD (stgL c) i).hi) := λ i hi => by
  rw [HF (c := o) (by rw [h.ms]; exact hi), HF hi, h.stg i hi]
  show (DZ c i).lo + up <= (DZ c i).hi + up ↔ _
  omega
 exact ⟨λ q i hi => (e i hi).1 (q i hi), λ q i hi => (e i hi).2 (q i hi)⟩
theorem LaH.read {c o : Cht} {on up : Int} (h : LaH c o on up) : AS ⟨o, nilI⟩ = AS ⟨c, nilI⟩ := by
 have e : (AU (AI ⟨o, nilI⟩)).2 = (AU (AI ⟨c, nilI⟩)).2 := by
  rw [Bool.eq_iff_iff, A0 (w := AI ⟨o, nilI⟩) h.ho, A0 (w := AI ⟨c, nilI⟩) h.hc]
  show Bal.stgOk o = true /\ (∃ t, TrC o (λ _ => false) t) ↔ Bal.stgOk c = true /\ ∃ t, TrC c (λ _ => false) t
  rw [h.stgOk]
  exact ⟨λ ⟨a, t, b⟩ => ⟨a, _, h.bwd b⟩, λ ⟨a, t, b⟩ => ⟨a, _, h.fwd b⟩⟩
 unfold AS
 rw [e, show AK (CZ.mk o nilI).c = 0 from AXS.2 h.ho, show AK (CZ.mk c nilI).c = 0 from AXS.2 h.hc]
 rfl
theorem LaH.stgL {c o : Cht} {on up : Int} (h : LaH c o on up) {i : Nat} (hi : i < c.ms.length) : gD (Bal.stgL o) i = shS up (gD (Bal.stgL c) i) := by
 rw [HF (c := o) (by rw [h.ms]; exact hi), HF hi, h.stg i hi]
structure SameL (c o : Cht) : Prop where
 len : o.ns.length = c.ns.length
 mi : ∀ i, (gD o.ns i).mi = (gD c.ns i).mi
 late : ∀ a b : Nat, a < c.ns.length -> b < c.ns.length -> PO o ⟨a, b⟩ = PO c ⟨a, b⟩
theorem SameL.ord {c o : Cht} (h : SameL c o) : BC o = BC c := by
 unfold BC
 rw [h.len, show HQ o = HQ c from funext λ x => h.mi _]
theorem AWP {p q : Int -> Bool} : ∀ {l : List Int}, (∀ x ∈ l, p x = q x) -> l.find? p = l.find? q
 | [], _ => rfl
 | y :: l, h => by
  have h1 := h y (List.mem_cons_self ..)
  have h2 := AWP (l := l) λ x hx => h x (List.mem_cons_of_mem _ hx)
  rw [List.find?_cons, List.find?_cons, h1, h2]
theorem SameL.fw {c o : Cht} (h : SameL c o) : ∀ k, k <= c.ns.length -> DA o k = DA c k
 | 0, _ => rfl
 | k + 1, hk => by
  have ih := h.fw k (by omega)
  have eN : ∀ s b x, fwN o s b x = fwN c s b x := λ s b x => by
   cases x with
   | none => rfl
   | some a => unfold fwN miA; rw [h.mi]
  have eP : ((BC c).take k).find? (fwP o (DA c k).la (gD (BC c) k)) = ((BC c).take k).find? (fwP c (DA c k).la (gD (BC c) k)) := AWP λ a ha => by
   obtain ⟨i, hi, e⟩ := PN ha
   rw [List.length_take, BXF] at hi
   rw [Yc (show i < k by omega)] at e
   obtain ⟨a1, a2, a3⟩ := CFU c (show i < c.ns.length by omega)
   obtain ⟨b1, b2, b3⟩ := CFU c (show k < c.ns.length by omega)
   rw [<- e, a3, b3]
   unfold fwP miA
   rw [h.mi, h.late a1 b1 a2 b2]
  show fwN o (DA o k) (gD (BC o) k) (((BC o).take k).find? (fwP o (DA o k).la (gD (BC o) k))) = fwN c (DA c k) (gD (BC c) k) (((BC c).take k).find? (fwP c (DA c k).la (gD (BC c) k)))
  rw [ih, h.ord, eP, eN]
end Go.Bal
