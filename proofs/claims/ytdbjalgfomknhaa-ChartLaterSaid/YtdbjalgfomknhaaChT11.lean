/- Package chart: what is later, or higher, by so much (no program in sight). -/
import Derived.Test.YtdbjalgfomknhaaChT7
import Derived.Test.YtdbjalgfomknhaaChT9
set_option linter.unusedVariables false
set_option linter.unusedSimpArgs false
namespace Go.Bal
open Go Go.Sym Go.Proofs
def uN (d : Int) (s : Span) : Span := ⟨s.lo + d, s.hi + d⟩
theorem vR {d x : Int} {s : Span} : (uN d s).has x ↔ s.has (x - d) := by
 unfold uN Span.has
 show s.lo + d <= x /\ x <= s.hi + d ↔ _
 omega
theorem CBT {h k : Hul} {S T : Span -> Prop} {d : Int} (hs : HulIs h S) (ks : HulIs k T) (e : ∀ s, T s ↔ ∃ r, S r /\ s = uN d r) : ((DS h).2 = 0 /\ (DS k).2 = 0 /\ (DS k).1 = uN d (DS h).1) ∨ (DS h = (⟨0, 0⟩, 5) /\ DS k = (⟨0, 0⟩, 5)) := by
 rcases hs.who with ⟨⟨s, q⟩, a1, a2, hm⟩ | ⟨no, e1⟩
 ·have tq := (e _).2 ⟨s, q, rfl⟩
  rcases ks.who with ⟨_, b1, b2, km⟩ | ⟨no, _⟩
  ·refine .inl ⟨a1, b1, ?_⟩
   rw [a2, b2]
   obtain ⟨⟨x, x1, x2⟩, y, y1, y2⟩ := hs.1 hm
   obtain ⟨⟨z, z1, z2⟩, w, w1, w2⟩ := ks.1 km
   have p1 := ks.2 _ ((e _).2 ⟨x, x1, rfl⟩)
   have p2 := ks.2 _ ((e _).2 ⟨y, y1, rfl⟩)
   obtain ⟨z', z3, rfl⟩ := (e _).1 z1
   obtain ⟨w', w3, rfl⟩ := (e _).1 w1
   have p3 := hs.2 _ z3
   have p4 := hs.2 _ w3
   have z2 : z'.lo + d = k.s.lo := z2
   have w2 : w'.hi + d = k.s.hi := w2
   have p1 : k.s.lo <= x.lo + d := p1.2.1
   have p2 : y.hi + d <= k.s.hi := p2.2.2
   have e1 : k.s = ⟨k.s.lo, k.s.hi⟩ := rfl
   rw [e1]
   show Span.mk k.s.lo k.s.hi = Span.mk (h.s.lo + d) (h.s.hi + d)
   congr 1 <;> omega
  ·exact absurd tq (no _)
 ·rcases ks.who with ⟨⟨s, q⟩, _⟩ | ⟨_, e2⟩
  ·obtain ⟨r, r1, _⟩ := (e s).1 q
   exact absurd r1 (no r)
  ·exact .inr ⟨e1, e2⟩
structure LaH (c o : Cht) (on up : Int) : Prop where
 hc : ChOk c
 ho : ChOk o
 ms : o.ms = c.ms
 p : o.p = c.p
 stg : ∀ i, i < c.ms.length -> FU o i = uN up (FU c i)
 has : ∀ j, hasN o.ns j = hasN c.ns j
 nt : ∀ j, hasN c.ns j = true -> IN o j = uN on (IN c j)
 some : ∃ m : Nat, m < c.ms.length /\ hasN c.ns m = true /\ 0 <= (IN c m).lo /\ (IN c m).hi <= 100000
 ph : c.p.hi <= 17
 onb : 0 <= on /\ on <= 100000
theorem near {c : Cht} (h : ChOk c) (hp : c.p.hi <= 17) {u : Nat -> Int} (hu : TrC c (λ _ => false) u) {i j : Nat} (hi : i < c.ms.length) (hj : j < c.ms.length) : u i - u j <= 170000 := by
 have p1 := h.p
 rcases Nat.lt_or_ge i j with q | q
 ·have := hu.le h (Nat.le_of_lt q) hj; omega
 ·have a := hu.upto q hi (λ _ _ _ => rfl)
  have b := (h.pl_in hj hi).1
  have c0 := h.pl_le q hi
  have m : c.p.hi * (NG c i - NG c j) <= 17 * 10000 := Int.mul_le_mul hp b (by omega) (by omega)
  rw [Int.mul_sub] at m
  omega
theorem LaH.fwd {c o : Cht} {on up : Int} (h : LaH c o on up) {u : Nat -> Int} (hu : TrC c (λ _ => false) u) : TrC o (λ _ => false) λ i => u i + on := by
 obtain ⟨m, m1, m2, m3, m4⟩ := h.some
 have onb := h.onb
 have um := hu.note m1
 unfold Span.has at um
 refine ⟨λ i hi => ?_, λ g hg => ?_⟩
 ·rw [h.ms] at hi
  have hm := h.hc.m
  have hi : i < c.ms.length := by omega
  show (IN o (i : Int)).has (u i + on)
  cases e : hasN c.ns (i : Int) with
  | true => rw [h.nt _ e, vR, show u i + on - on = u i by omega]; exact hu.note hi
  | false =>
   rw [(I0 h.ho (i : Int)).2 (by rw [h.has]; exact e)]
   have a := near h.hc h.ph hu hi m1
   have b := near h.hc h.ph hu m1 hi
   show -100000000 <= u i + on /\ u i + on <= 100000000
   omega
 ·rw [h.ms] at hg
  have q := hu.gap g hg
  have e : TG o (λ _ => false) g = TG c (λ _ => false) g := by unfold TG KJ; rw [h.ms, h.p]
  rw [e]
  show (TG c (λ _ => false) g).has (u (g + 1) + on - (u g + on))
  rw [show u (g + 1) + on - (u g + on) = u (g + 1) - u g by omega]; exact q
theorem LaH.bwd {c o : Cht} {on up : Int} (h : LaH c o on up) {u : Nat -> Int} (hu : TrC o (λ _ => false) u) : TrC c (λ _ => false) λ i => u i - on := by
 obtain ⟨m, m1, m2, m3, m4⟩ := h.some
 have onb := h.onb
 have m1o : m < o.ms.length := by rw [h.ms]; exact m1
 have um := hu.note m1o
 rw [h.nt _ m2, vR] at um
 unfold Span.has at um
 have ph : o.p.hi <= 17 := by rw [h.p]; exact h.ph
 refine ⟨λ i hi => ?_, λ g hg => ?_⟩
 ·have hm := h.hc.m
  have hi : i < c.ms.length := by omega
  have hio : i < o.ms.length := by rw [h.ms]; exact hi
  show (IN c (i : Int)).has (u i - on)
  cases e : hasN c.ns (i : Int) with
  | true => rw [<- vR, <- h.nt _ e]; exact hu.note hio
  | false =>
   rw [(I0 h.hc (i : Int)).2 e]
   have a := near h.ho ph hu hio m1o
   have b := near h.ho ph hu m1o hio
   show -100000000 <= u i - on /\ u i - on <= 100000000
   omega
 ·have q := hu.gap g (by rw [h.ms]; exact hg)
  have e : TG o (λ _ => false) g = TG c (λ _ => false) g := by unfold TG KJ; rw [h.ms, h.p]
  rw [e] at q
  show (TG c (λ _ => false) g).has (u (g + 1) - on - (u g - on))
  rw [show u (g + 1) - on - (u g - on) = u (g + 1) - u g by omega]; exact q
theorem LaH.stgOk {c o : Cht} {on up : Int} (h : LaH c o on up) : stgOk o = Bal.stgOk c := by
 rw [Bool.eq_iff_iff]
 unfold Bal.stgOk
 rw [gG, gG, RT, RT, h.ms]
 have e : ∀ i, i < c.ms.length -> ((gD (stgL o) i).lo <= (gD (stgL o) i).hi ↔ (gD (stgL c) i).lo <= (gD (stgL c) i).hi) := λ i hi => by
  rw [Zj (c := o) (by rw [h.ms]; exact hi), Zj hi, h.stg i hi]
  show (FU c i).lo + up <= (FU c i).hi + up ↔ _
  omega
 exact ⟨λ q i hi => (e i hi).1 (q i hi), λ q i hi => (e i hi).2 (q i hi)⟩
theorem LaH.read {c o : Cht} {on up : Int} (h : LaH c o on up) : AM ⟨o, nilI⟩ = AM ⟨c, nilI⟩ := by
 have e : (AU (AH ⟨o, nilI⟩)).2 = (AU (AH ⟨c, nilI⟩)).2 := by
  rw [Bool.eq_iff_iff, Cw (w := AH ⟨o, nilI⟩) h.ho, Cw (w := AH ⟨c, nilI⟩) h.hc]
  show Bal.stgOk o = true /\ (∃ t, TrC o (λ _ => false) t) ↔ Bal.stgOk c = true /\ ∃ t, TrC c (λ _ => false) t
  rw [h.stgOk]
  exact ⟨λ ⟨a, t, b⟩ => ⟨a, _, h.bwd b⟩, λ ⟨a, t, b⟩ => ⟨a, _, h.fwd b⟩⟩
 unfold AM
 rw [e, show AJ (CZ.mk o nilI).c = 0 from yP.2 h.ho, show AJ (CZ.mk c nilI).c = 0 from yP.2 h.hc]
 rfl
theorem LaH.times {c o : Cht} {on up : Int} (h : LaH c o on up) (hr : AM ⟨c, nilI⟩ = 0) {i : Nat} (hi : i < c.ms.length) : gD (CB ⟨o, nilI⟩) i = uN on (gD (CB ⟨c, nilI⟩) i) := by
 have ro : AM ⟨o, nilI⟩ = 0 := h.read.trans hr
 have hio : i < o.ms.length := by rw [h.ms]; exact hi
 have l1 := CGK (a := ⟨c, nilI⟩) hr hi
 refine CPV (CGK (a := ⟨o, nilI⟩) ro hio) (by show (gD (CB ⟨c, nilI⟩) i).lo + on <= (gD (CB ⟨c, nilI⟩) i).hi + on; omega) λ x => ?_
 rw [vR, gT (a := ⟨o, nilI⟩) h.ho ro hio, gT (a := ⟨c, nilI⟩) h.hc hr hi]
 constructor
 ·rintro ⟨u, u1, u2⟩; exact ⟨_, h.bwd u1, by show u i - on = x - on; omega⟩
 ·rintro ⟨u, u1, u2⟩; exact ⟨_, h.fwd u1, by show u i + on = x; omega⟩
theorem LaH.stgL {c o : Cht} {on up : Int} (h : LaH c o on up) {i : Nat} (hi : i < c.ms.length) : gD (Bal.stgL o) i = uN up (gD (Bal.stgL c) i) := by
 rw [Zj (c := o) (by rw [h.ms]; exact hi), Zj hi, h.stg i hi]
theorem LaH.stage {c o : Cht} {on up : Int} (h : LaH c o on up) (t : Int) : ((BD ⟨⟨c, nilI⟩, t⟩).2 = (BD ⟨⟨o, nilI⟩, t + on⟩).2) /\ ((BD ⟨⟨c, nilI⟩, t⟩).2 = 0 -> (BD ⟨⟨o, nilI⟩, t + on⟩).1 = uN up (BD ⟨⟨c, nilI⟩, t⟩).1) := by
 by_cases hr : AM ⟨c, nilI⟩ = 0
 ·have ro : AM ⟨o, nilI⟩ = 0 := h.read.trans hr
  have ec : BD ⟨⟨c, nilI⟩, t⟩ = DS (Dd ⟨⟨c, nilI⟩, t⟩) := by unfold BD; rw [show AM (CZI.mk ⟨c, nilI⟩ t).a = 0 from hr]; rfl
  have eo : BD ⟨⟨o, nilI⟩, t + on⟩ = DS (Dd ⟨⟨o, nilI⟩, t + on⟩) := by unfold BD; rw [show AM (CZI.mk ⟨o, nilI⟩ (t + on)).a = 0 from ro]; rfl
  rw [ec, eo]
  have K := CBT (d := up) (BDC (a := ⟨c, nilI⟩) h.hc hr t) (BDC (a := ⟨o, nilI⟩) h.ho ro (t + on)) λ s => by
   constructor
   ·rintro ⟨u, u1, ⟨i, i1, i2, rfl⟩ | ⟨g, g1, ⟨g2, g3⟩, q⟩⟩
    ·have i1 : i < c.ms.length := by rw [<- h.ms]; exact i1
     exact ⟨_, ⟨_, h.bwd u1, .inl ⟨i, i1, by show u i - on = t; omega, rfl⟩⟩, h.stgL i1⟩
    ·have g1 : g + 1 < c.ms.length := by rw [<- h.ms]; exact g1
     rcases q with rfl | rfl
     ·exact ⟨_, ⟨_, h.bwd u1, .inr ⟨g, g1, ⟨by show u g - on <= t - 1; omega, by show t + 1 <= u (g + 1) - on; omega⟩, .inl rfl⟩⟩, h.stgL (by omega)⟩
     ·exact ⟨_, ⟨_, h.bwd u1, .inr ⟨g, g1, ⟨by show u g - on <= t - 1; omega, by show t + 1 <= u (g + 1) - on; omega⟩, .inr rfl⟩⟩, h.stgL g1⟩
   ·rintro ⟨r, ⟨u, u1, ⟨i, i1, i2, rfl⟩ | ⟨g, g1, ⟨g2, g3⟩, q⟩⟩, rfl⟩
    ·have i1 : i < c.ms.length := i1
     exact ⟨_, h.fwd u1, .inl ⟨i, by show i < o.ms.length; rw [h.ms]; exact i1, by show u i + on = t + on; omega, (h.stgL i1).symm⟩⟩
    ·have g1 : g + 1 < c.ms.length := g1
     rcases q with rfl | rfl
     ·exact ⟨_, h.fwd u1, .inr ⟨g, by show g + 1 < o.ms.length; rw [h.ms]; exact g1, ⟨by show u g + on <= t + on - 1; omega, by show t + on + 1 <= u (g + 1) + on; omega⟩, .inl (h.stgL (by omega)).symm⟩⟩
     ·exact ⟨_, h.fwd u1, .inr ⟨g, by show g + 1 < o.ms.length; rw [h.ms]; exact g1, ⟨by show u g + on <= t + on - 1; omega, by show t + on + 1 <= u (g + 1) + on; omega⟩, .inr (h.stgL g1).symm⟩⟩
  rcases K with ⟨k1, k2, k3⟩ | ⟨k1, k2⟩
  ·exact ⟨k1.trans k2.symm, λ _ => k3⟩
  ·rw [k1, k2]; exact ⟨rfl, λ q => (by cases q)⟩
 ·have b : (AM ⟨c, nilI⟩ == 0) = false := by simpa using hr
  have b2 : (AM ⟨o, nilI⟩ == 0) = false := by rw [h.read]; exact b
  have ec : BD ⟨⟨c, nilI⟩, t⟩ = (⟨0, 0⟩, AM ⟨c, nilI⟩) := by unfold BD; rw [b]; rfl
  have eo : BD ⟨⟨o, nilI⟩, t + on⟩ = (⟨0, 0⟩, AM ⟨o, nilI⟩) := by unfold BD; rw [b2]; rfl
  rw [ec, eo]
  exact ⟨h.read.symm, λ q => absurd q hr⟩
theorem BBD (d : Int) : ∀ (l : List Int) (a : Int), (l.map (· + d)).foldl AY (a + d) = l.foldl AY a + d
 | [], a => rfl
 | y :: l, a => by
  have e : AY (a + d) (y + d) = AY a y + d := by unfold AY; split <;> split <;> omega
  show (l.map (· + d)).foldl AY (AY (a + d) (y + d)) = l.foldl AY (AY a y) + d
  rw [e]; exact BBD d l _
theorem CUL {l m : List Span} {d : Int} (h0 : 0 < l.length) (hl : m.length = l.length) (e : ∀ i, i < l.length -> gD m i = uN d (gD l i)) : gLo m = gLo l + d /\ gHi m = gHi l + d := by
 have em : m = l.map (uN d) := BZT (by simp [hl]) λ i hi => by rw [e i (by omega), AYA _ (by omega)]
 subst em
 have g0 : gD (l.map (uN d)) 0 = uN d (gD l 0) := e 0 h0
 unfold gLo gHi
 rw [g0]
 constructor
 ·have : (l.map (uN d)).map (·.lo) = (l.map (·.lo)).map (· + d) := by rw [List.map_map, List.map_map]; rfl
  rw [this]; exact BBD d _ _
 ·have : (l.map (uN d)).map (·.hi) = (l.map (·.hi)).map (· + d) := by rw [List.map_map, List.map_map]; rfl
  rw [this]; exact BBD d _ _
theorem LaH.sli {c o : Cht} {on up : Int} (h : LaH c o on up) {f t f2 t2 : Int} {i j : Nat} (hij : i <= j) (hj : j < c.ms.length) : (⟨gLo (IR ⟨⟨o, nilI⟩, f2, t2⟩ i j), gHi (IR ⟨⟨o, nilI⟩, f2, t2⟩ i j)⟩ : Span) = uN up ⟨gLo (IR ⟨⟨c, nilI⟩, f, t⟩ i j), gHi (IR ⟨⟨c, nilI⟩, f, t⟩ i j)⟩ := by
 obtain ⟨a, b⟩ := CUL (d := up) (l := IR ⟨⟨c, nilI⟩, f, t⟩ i j) (m := IR ⟨⟨o, nilI⟩, f2, t2⟩ i j) (by rw [Jj]; omega) (by rw [Jj, Jj]) λ k hk => by
  rw [Jj] at hk
  rw [BQV _ hk, BQV _ hk]
  exact h.stgL (by omega)
 rw [a, b]; rfl
theorem LaH.peak {c o : Cht} {on up : Int} (h : LaH c o on up) {f t : Int} (hft : f <= t) : ((CQ ⟨⟨c, nilI⟩, f, t⟩).2 = (CQ ⟨⟨o, nilI⟩, f + on, t + on⟩).2) /\ ((CQ ⟨⟨c, nilI⟩, f, t⟩).2 = 0 -> (CQ ⟨⟨o, nilI⟩, f + on, t + on⟩).1 = uN up (CQ ⟨⟨c, nilI⟩, f, t⟩).1) := by
 by_cases hr : AM ⟨c, nilI⟩ = 0
 ·have ro : AM ⟨o, nilI⟩ = 0 := h.read.trans hr
  have ec : CQ ⟨⟨c, nilI⟩, f, t⟩ = DS (Jx ⟨⟨c, nilI⟩, f, t⟩ c.ms.length) := by
   unfold CQ PF
   rw [show AM (CZ2.mk ⟨c, nilI⟩ f t).a = 0 from hr, decide_eq_false (show ¬ (CZ2.mk ⟨c, nilI⟩ f t).t < (CZ2.mk ⟨c, nilI⟩ f t).f by show ¬ t < f; omega)]; rfl
  have eo : CQ ⟨⟨o, nilI⟩, f + on, t + on⟩ = DS (Jx ⟨⟨o, nilI⟩, f + on, t + on⟩ o.ms.length) := by
   unfold CQ PF
   rw [show AM (CZ2.mk ⟨o, nilI⟩ (f + on) (t + on)).a = 0 from ro, decide_eq_false (show ¬ (CZ2.mk ⟨o, nilI⟩ (f + on) (t + on)).t < (CZ2.mk ⟨o, nilI⟩ (f + on) (t + on)).f by show ¬ t + on < f + on; omega)]; rfl
  rw [ec, eo]
  have K := CBT (d := up) (BOW (x := ⟨⟨c, nilI⟩, f, t⟩) h.hc hr hft) (BOW (x := ⟨⟨o, nilI⟩, f + on, t + on⟩) h.ho ro (by show f + on <= t + on; omega)) λ s => by
   constructor
   ·rintro ⟨u, u1, i, j, i1, i2, i3, rfl⟩
    have i2 : j < c.ms.length := by rw [<- h.ms]; exact i2
    refine ⟨_, ⟨_, h.bwd u1, i, j, i1, i2, λ k hk => ?_, rfl⟩, h.sli i1 i2⟩
    have := i3 k (by show k < o.ms.length; rw [h.ms]; exact hk)
    have this : f + on <= u k /\ u k <= t + on ↔ i <= k /\ k <= j := this
    show f <= u k - on /\ u k - on <= t ↔ _
    rw [<- this]; omega
   ·rintro ⟨r, ⟨u, u1, i, j, i1, i2, i3, rfl⟩, rfl⟩
    have i2 : j < c.ms.length := i2
    refine ⟨_, h.fwd u1, i, j, i1, by show j < o.ms.length; rw [h.ms]; exact i2, λ k hk => ?_, (h.sli i1 i2).symm⟩
    have := i3 k (by show k < c.ms.length; rw [<- h.ms]; exact hk)
    have this : f <= u k /\ u k <= t ↔ i <= k /\ k <= j := this
    show f + on <= u k + on /\ u k + on <= t + on ↔ _
    rw [<- this]; omega
  rcases K with ⟨k1, k2, k3⟩ | ⟨k1, k2⟩
  ·exact ⟨k1.trans k2.symm, λ _ => k3⟩
  ·rw [k1, k2]; exact ⟨rfl, λ q => (by cases q)⟩
 ·have b : (AM ⟨c, nilI⟩ == 0) = false := by simpa using hr
  have b2 : (AM ⟨o, nilI⟩ == 0) = false := by rw [h.read]; exact b
  have ec : CQ ⟨⟨c, nilI⟩, f, t⟩ = (⟨0, 0⟩, AM ⟨c, nilI⟩) := by unfold CQ; rw [b]; rfl
  have eo : CQ ⟨⟨o, nilI⟩, f + on, t + on⟩ = (⟨0, 0⟩, AM ⟨o, nilI⟩) := by unfold CQ; rw [b2]; rfl
  rw [ec, eo]
  exact ⟨h.read.symm, λ q => absurd q hr⟩
structure SameL (c o : Cht) : Prop where
 len : o.ns.length = c.ns.length
 mi : ∀ i, (gD o.ns i).mi = (gD c.ns i).mi
 late : ∀ a b : Nat, a < c.ns.length -> b < c.ns.length -> KT o ⟨a, b⟩ = KT c ⟨a, b⟩
theorem SameL.ord {c o : Cht} (h : SameL c o) : AR o = AR c := by
 unfold AR
 rw [h.len, show GK o = GK c from funext λ x => h.mi _]
theorem ASL {p q : Int -> Bool} : ∀ {l : List Int}, (∀ x ∈ l, p x = q x) -> l.find? p = l.find? q
 | [], _ => rfl
 | y :: l, h => by
  have h1 := h y (List.mem_cons_self ..)
  have h2 := ASL (l := l) λ x hx => h x (List.mem_cons_of_mem _ hx)
  rw [List.find?_cons, List.find?_cons, h1, h2]
theorem SameL.fw {c o : Cht} (h : SameL c o) : ∀ k, k <= c.ns.length -> BY o k = BY c k
 | 0, _ => rfl
 | k + 1, hk => by
  have ih := h.fw k (by omega)
  have eN : ∀ s b x, fwN o s b x = fwN c s b x := λ s b x => by
   cases x with
   | none => rfl
   | some a => unfold fwN miA; rw [h.mi]
  have eP : ((AR c).take k).find? (fwP o (BY c k).la (gD (AR c) k)) = ((AR c).take k).find? (fwP c (BY c k).la (gD (AR c) k)) := ASL λ a ha => by
   obtain ⟨i, hi, e⟩ := IQ ha
   rw [List.length_take, OT] at hi
   rw [PQ (show i < k by omega)] at e
   obtain ⟨a1, a2, a3⟩ := Gr c (show i < c.ns.length by omega)
   obtain ⟨b1, b2, b3⟩ := Gr c (show k < c.ns.length by omega)
   rw [<- e, a3, b3]
   unfold fwP miA
   rw [h.mi, h.late a1 b1 a2 b2]
  show fwN o (BY o k) (gD (AR o) k) (((AR o).take k).find? (fwP o (BY o k).la (gD (AR o) k))) = fwN c (BY c k) (gD (AR c) k) (((AR c).take k).find? (fwP c (BY c k).la (gD (AR c) k)))
  rw [ih, h.ord, eP, eN]
end Go.Bal
