/- Package chart: what Stage, Peak and First return, by truths (no program in sight). -/
import Derived.Test.YtdbjalgfomknhaaChT2
import Derived.Test.YtdbjalgfomknhaaChJ
import Derived.Test.YtdbjalgfomknhaaChT6
import Derived.Test.YtdbjalgfomknhaaChT7
import Derived.Test.YtdbjalgfomknhaaChL
set_option linter.unusedVariables false
set_option linter.unusedSimpArgs false
namespace Go.Bal
open Go Go.Sym Go.Proofs
theorem CAD (a b : Int) : TM a b = a /\ b <= a ∨ TM a b = b /\ a <= b := by unfold TM; split <;> omega
theorem BZB (a b : Int) : Gd a b = a /\ a <= b ∨ Gd a b = b /\ b <= a := by unfold Gd; split <;> omega
def HulIs (h : Hul) (S : Span -> Prop) : Prop := (h.m = true -> (∃ s, S s /\ s.lo = h.s.lo) /\ ∃ s, S s /\ s.hi = h.s.hi) /\ ∀ s, S s -> h.m = true /\ h.s.lo <= s.lo /\ s.hi <= h.s.hi
theorem HulIs.zero {S : Span -> Prop} (h : ∀ s, ¬ S s) : HulIs zHul S := ⟨λ h => (by cases h), λ s hs => absurd hs (h s)⟩
theorem HulIs.ext {h : Hul} {S T : Span -> Prop} (hs : HulIs h S) (e : ∀ s, S s ↔ T s) : HulIs h T :=
 ⟨λ hm => let ⟨⟨a, a1, a2⟩, b, b1, b2⟩ := hs.1 hm; ⟨⟨a, (e a).1 a1, a2⟩, b, (e b).1 b1, b2⟩, λ s q => hs.2 s ((e s).2 q)⟩
theorem HulIs.add {h : Hul} {S : Span -> Prop} (hs : HulIs h S) (x : Span) : HulIs (Wu h x) λ s => S s ∨ s = x := by
 cases hm : h.m with
 | false =>
  have no : ∀ s, ¬ S s := λ s q => by have := (hs.2 s q).1; rw [hm] at this; cases this
  have e : Wu h x = ⟨x, true⟩ := by unfold Wu; rw [hm]; rfl
  rw [e]
  exact ⟨λ _ => ⟨⟨x, .inr rfl, rfl⟩, x, .inr rfl, rfl⟩, λ s q => q.elim (λ q => absurd q (no s)) λ q => by subst q; exact ⟨rfl, Int.le_refl _, Int.le_refl _⟩⟩
 | true =>
  have e : Wu h x = ⟨⟨Gd x.lo h.s.lo, TM x.hi h.s.hi⟩, true⟩ := by unfold Wu; rw [hm]; rfl
  obtain ⟨⟨a, a1, a2⟩, b, b1, b2⟩ := hs.1 hm
  have m1 := CDD x.lo h.s.lo
  have m2 := BRF x.hi h.s.hi
  rw [e]
  refine ⟨λ _ => ⟨?_, ?_⟩, λ s q => ⟨rfl, ?_, ?_⟩⟩
  ·show ∃ s, (S s ∨ s = x) /\ s.lo = Gd x.lo h.s.lo
   rcases BZB x.lo h.s.lo with ⟨q, _⟩ | ⟨q, _⟩ <;> rw [q]
   ·exact ⟨x, .inr rfl, rfl⟩
   ·exact ⟨a, .inl a1, a2⟩
  ·show ∃ s, (S s ∨ s = x) /\ s.hi = TM x.hi h.s.hi
   rcases CAD x.hi h.s.hi with ⟨q, _⟩ | ⟨q, _⟩ <;> rw [q]
   ·exact ⟨x, .inr rfl, rfl⟩
   ·exact ⟨b, .inl b1, b2⟩
  ·show Gd x.lo h.s.lo <= s.lo
   rcases q with q | q
   ·have := (hs.2 s q).2; omega
   ·subst q; exact m1.1
  ·show s.hi <= TM x.hi h.s.hi
   rcases q with q | q
   ·have := (hs.2 s q).2; omega
   ·subst q; exact m2.1
theorem TrC.bd {c : Cht} (h : ChOk c) {sp : Nat -> Bool} {u : Nat -> Int} (hu : TrC c sp u) {i : Nat} (hi : i < c.ms.length) : -100000000 <= u i /\ u i <= 100000000 := by
 have n := hu.note hi
 have b := (AXN h (i : Int)).1
 unfold bdS at b
 unfold Span.has at n
 omega
theorem TrC.inc {c : Cht} (h : ChOk c) {sp : Nat -> Bool} {u : Nat -> Int} (hu : TrC c sp u) {g : Nat} (hg : g + 1 < c.ms.length) : u g < u (g + 1) := by
 have a := (hu.gap g (by omega)).1
 have b := (h.gap sp hg).1
 have a : c.p.lo * Pq c g <= u (g + 1) - u g := a
 omega
theorem TrC.lt {c : Cht} (h : ChOk c) {sp : Nat -> Bool} {u : Nat -> Int} (hu : TrC c sp u) {i : Nat} : ∀ {j : Nat}, i < j -> j < c.ms.length -> u i < u j
 | j + 1, hij, hj => by
  have := hu.inc h hj
  rcases Nat.lt_or_ge i j with q | q
  ·have := hu.lt h q (by omega); omega
  ·obtain rfl : i = j := by omega
   exact this
theorem TrC.le {c : Cht} (h : ChOk c) {sp : Nat -> Bool} {u : Nat -> Int} (hu : TrC c sp u) {i j : Nat} (hij : i <= j) (hj : j < c.ms.length) : u i <= u j := by
 rcases Nat.lt_or_ge i j with q | q
 ·exact Int.le_of_lt (hu.lt h q hj)
 ·obtain rfl : i = j := by omega
  exact Int.le_refl _
theorem BFZ {c : Cht} {i : Nat} (hi : i < c.ms.length) : gD (Lr c) i = Zi c i := EK _ _ _ hi
end Go.Bal

namespace Go.Bal
open Go Go.Sym Go.Proofs
theorem BYA {a : CZ} (h : ChOk a.c) (hz : okZ a = true) (hs : ZC a.c = true) {t : Nat -> Int} (ht : TrC a.c (WL a).sp t) : EE a = 0 := by
 unfold EE
 rw [Zh.2 h, hz, (AAF (w := WL a) h).2 ⟨hs, t, ht⟩]; rfl
theorem CJQ {c : Cht} (h : ZC c = true) {i : Nat} (hi : i < c.ms.length) : (gD (Lr c) i).lo <= (gD (Lr c) i).hi := AXD.1 h i (by rw [mI]; exact hi)
theorem MadeF.stg {a : MkI} (h : MadeF a) : ZC (RK a) = true := AXD.2 λ i hi => by
 rw [mI] at hi
 rw [BFZ hi]
 exact Int.le_trans (h.st i hi).1 (h.st i hi).2
theorem MadeF.read {a : MkI} (h : MadeF a) {z : List Int} (hz : okZ ⟨RK a, z⟩ = true) (hs : ∀ g ∈ (vC a).z, g ∈ z) : EE ⟨RK a, z⟩ = 0 /\ TrC (RK a) (WL ⟨RK a, z⟩).sp (gD (vC a).t) := by
 have t := h.tr (WL ⟨RK a, z⟩).sp λ g hg => (AXG (a := ⟨RK a, z⟩) h.ok.m hz g).2 (hs _ hg)
 exact ⟨BYA (a := ⟨RK a, z⟩) h.ok hz h.stg t, t⟩
theorem CCR {bs : List Int} (h : ∀ i, i < bs.length -> 0 <= gD bs i /\ gD bs i <= 255) {m : Int} {b : Bool} (hm : 1 <= m /\ m <= 14) : wO ⟨⟨bs, 0, 0⟩, m, b⟩ := ⟨⟨⟨Int.le_refl _, Int.le_refl _⟩, ⟨Int.le_refl _, by show (0 : Int) < 251; omega⟩, h⟩, hm⟩
theorem CIM {bs : List Int} (h : ∀ i, i < bs.length -> 0 <= gD bs i /\ gD bs i <= 255) : StmB 0 ⟨bs, 0, 0⟩ := ⟨⟨Int.le_refl _, Int.le_refl _⟩, ⟨Int.le_refl _, by show (0 : Int) < 251; omega⟩, h⟩
end Go.Bal

namespace Go.Bal
open Go Go.Sym Go.Proofs
theorem oV {x : Prv} {i : Nat} : ∀ n, mtF x n i = true ↔ ∃ k, k < n /\ Mh x k <= i /\ (i : Int) < pvB x k
 | 0 => ⟨λ h => (by cases h), λ ⟨k, h, _⟩ => absurd h (Nat.not_lt_zero _)⟩
 | n + 1 => by
  show (mtF x n i || (decide (Mh x n <= i) && decide ((i : Int) < pvB x n))) = true ↔ _
  rw [Bool.or_eq_true, oV n, Bool.and_eq_true, decide_eq_true_eq, decide_eq_true_eq]
  constructor
  ·rintro (⟨k, a, b⟩ | b)
   ·exact ⟨k, by omega, b⟩
   ·exact ⟨n, Nat.lt_succ_self n, b⟩
  ·rintro ⟨k, a, b⟩
   rcases Nat.lt_or_ge k n with q | q
   ·exact .inl ⟨k, q, b⟩
   ·obtain rfl : k = n := by omega
    exact .inr b
theorem BJY {f : Nat -> Bool} {a : Nat} : ∀ j, hitJ f a j = true ↔ ∃ t, t < j /\ f (a + t) = true
 | 0 => ⟨λ h => (by cases h), λ ⟨k, h, _⟩ => absurd h (Nat.not_lt_zero _)⟩
 | n + 1 => by
  show (hitJ f a n || f (a + n)) = true ↔ _
  rw [Bool.or_eq_true, BJY n]
  constructor
  ·rintro (⟨k, q, b⟩ | b)
   ·exact ⟨k, by omega, b⟩
   ·exact ⟨n, Nat.lt_succ_self n, b⟩
  ·rintro ⟨k, q, b⟩
   rcases Nat.lt_or_ge k n with r | r
   ·exact .inl ⟨k, r, b⟩
   ·obtain rfl : k = n := by omega
    exact .inr b
def disP (x : Prv) (j k : Nat) : Prop := ∀ i : Nat, ¬ ((Mh x j <= i /\ (i : Int) < pvB x j) /\ Mh x k <= i /\ (i : Int) < pvB x k)
theorem BMZ {x : Prv} : ∀ n, (∀ k, k < n -> 0 <= Mh x k) -> (pvK x n = true ↔ (∀ k, k < n -> XN x.c (gD x.l k) = true) /\ ∀ j k, j < k -> k < n -> disP x j k)
 | 0, _ => ⟨λ _ => ⟨λ k h => absurd h (Nat.not_lt_zero _), λ j k _ h => absurd h (Nat.not_lt_zero _)⟩, λ _ => rfl⟩
 | n + 1, h0 => by
  show (pvK x n && XN x.c (gD x.l n) && !hitJ (mtF x n) (Mh x n).toNat (pvB x n - Mh x n).toNat) = true ↔ _
  rw [Bool.and_eq_true, Bool.and_eq_true, BMZ n λ k hk => h0 k (by omega), Bool.not_eq_true', <- Bool.not_eq_true, BJY]
  have a0 := h0 n (Nat.lt_succ_self n)
  constructor
  ·rintro ⟨⟨⟨h1, h2⟩, h3⟩, h4⟩
   refine ⟨λ k hk => ?_, λ j k hjk hk i hi => ?_⟩
   ·rcases Nat.lt_or_ge k n with q | q
    ·exact h1 k q
    ·obtain rfl : k = n := by omega
     exact h3
   ·rcases Nat.lt_or_ge k n with q | q
    ·exact h2 j k hjk q i hi
    ·obtain rfl : k = n := by omega
     exact h4 ⟨i - (Mh x k).toNat, by omega, (oV k).2 ⟨j, hjk, by rw [show (Mh x k).toNat + (i - (Mh x k).toNat) = i by omega]; exact hi.1⟩⟩
  ·rintro ⟨h1, h2⟩
   refine ⟨⟨⟨λ k hk => h1 k (by omega), λ j k hjk hk => h2 j k hjk (by omega)⟩, h1 n (Nat.lt_succ_self n)⟩, ?_⟩
   rintro ⟨t, ht, hm⟩
   obtain ⟨k, hk, q⟩ := (oV n).1 hm
   exact h2 k n hk (Nat.lt_succ_self n) _ ⟨q, by omega, by omega⟩
theorem BJU {z : List Int} {p q : Int -> Bool} (h : ∀ y ∈ z, p y = true -> q y = true) {x : Int} (hx : x ∈ z) (h1 : q x = true) (h2 : p x = false) : (z.filter p).length + 1 <= (z.filter q).length := by
 induction z with
 | nil => cases hx
 | cons y r ih =>
  have mono : ∀ (r : List Int), (∀ y ∈ r, p y = true -> q y = true) -> (r.filter p).length <= (r.filter q).length := by
   intro r
   induction r with
   | nil => intro _; exact Nat.le_refl _
   | cons y r ih =>
    intro h
    have i2 := ih λ y hy => h y (List.mem_cons_of_mem _ hy)
    cases e1 : p y with
    | true => rw [List.filter_cons_of_pos e1, List.filter_cons_of_pos (h y (List.mem_cons_self ..) e1)]; simp only [List.length_cons]; omega
    | false =>
     rw [List.filter_cons_of_neg (by rw [e1]; exact Bool.false_ne_true)]
     cases e2 : q y with
     | true => rw [List.filter_cons_of_pos e2, List.length_cons]; omega
     | false => rw [List.filter_cons_of_neg (by rw [e2]; exact Bool.false_ne_true)]; exact i2
  rcases List.mem_cons.1 hx with e | e
  ·subst e
   rw [List.filter_cons_of_neg (by rw [h2]; exact Bool.false_ne_true), List.filter_cons_of_pos h1, List.length_cons]
   have := mono r λ y hy => h y (List.mem_cons_of_mem _ hy)
   omega
  ·have i2 := ih (λ y hy => h y (List.mem_cons_of_mem _ hy)) e
   cases e1 : p y with
   | true => rw [List.filter_cons_of_pos e1, List.filter_cons_of_pos (h y (List.mem_cons_self ..) e1)]; simp only [List.length_cons]; omega
   | false =>
    rw [List.filter_cons_of_neg (by rw [e1]; exact Bool.false_ne_true)]
    cases e2 : q y with
    | true => rw [List.filter_cons_of_pos e2, List.length_cons]; omega
    | false => rw [List.filter_cons_of_neg (by rw [e2]; exact Bool.false_ne_true)]; exact i2
theorem BON {c : Cht} (h : ChOk c) {p : Pr} (hp : OS c p = true) (hl : XN c p = true) : (0 <= (nA c p).mi /\ (nA c p).mi < (nB c p).mi /\ (nB c p).mi < c.ms.length) /\ ltM c (nA c p).mi.toNat (nB c p).mi.toNat := by
 have hn := h.n
 obtain ⟨⟨⟨a0, a1⟩, b0, b1⟩, lt⟩ := AXJ (by omega) hp
 have k1 := (h.nt (nA c p) (HP (by omega))).mi
 have k2 := (h.nt (nB c p) (HP (by omega))).mi
 refine ⟨by omega, ?_⟩
 have e : p = ⟨((p.a.toNat : Nat) : Int), ((p.b.toNat : Nat) : Int)⟩ := by
  obtain ⟨a, b⟩ := p
  show (⟨a, b⟩ : Pr) = ⟨((a.toNat : Nat) : Int), ((b.toNat : Nat) : Int)⟩
  rw [Int.toNat_of_nonneg a0, Int.toNat_of_nonneg b0]
 rw [e] at hl
 exact (BCX h (a := p.a.toNat) (b := p.b.toNat) (by omega) (by omega)).1 hl
theorem BAC {x : Prv} (h : ChOk x.c) (hp : ∀ p ∈ x.l, OS x.c p = true) {sp : Nat -> Bool} {t : Nat -> Int} {z : List Int} (ht : TrC x.c sp t) (hz : ∀ g : Nat, sp g = true -> (g : Int) ∈ z) : ∀ n, n <= x.l.length -> pvK x n = true -> n <= (z.filter λ y => decide (0 <= y) && mtF x n y.toNat).length
 | 0, _, _ => Nat.zero_le _
 | n + 1, hn, hk => by
  have a0 : ∀ k, k < n + 1 -> 0 <= Mh x k := λ k hk2 => by
   have q := AXJ (by have := h.n; omega) (hp (gD x.l k) (HP (by omega)))
   have := (h.nt (nA x.c (gD x.l k)) (HP (by omega))).mi
   exact this.1
  have ih := BAC h hp ht hz n (by omega) (AYJ (Nat.le_succ n) hk)
  obtain ⟨h1, h2⟩ := (BMZ (n + 1) a0).1 hk
  obtain ⟨⟨b1, b2, b3⟩, hl⟩ := BON h (hp (gD x.l n) (HP (by omega))) (h1 n (Nat.lt_succ_self n))
  obtain ⟨g, g1, g2, g3⟩ := BDE ht (j := (nA x.c (gD x.l n)).mi.toNat) (k := (nB x.c (gD x.l n)).mi.toNat) (by omega) (by omega) hl
  have gA : Mh x n <= g /\ (g : Int) < pvB x n := by
   have e1 : Mh x n = (nA x.c (gD x.l n)).mi := rfl
   have e2 : pvB x n = (nB x.c (gD x.l n)).mi := rfl
   rw [e1, e2]; omega
  have no : mtF x n g = false := by
   cases q : mtF x n g with
   | false => rfl
   | true =>
    obtain ⟨j, hj, qj⟩ := (oV n).1 q
    exact absurd ⟨qj, gA⟩ (h2 j n hj (Nat.lt_succ_self n) g)
  have := BJU (z := z) (p := λ y => decide (0 <= y) && mtF x n y.toNat) (q := λ y => decide (0 <= y) && mtF x (n + 1) y.toNat) (λ y _ hy => by
   rw [Bool.and_eq_true] at hy ⊢
   obtain ⟨j, hj, q⟩ := (oV n).1 hy.2
   exact ⟨hy.1, (oV (n + 1)).2 ⟨j, by omega, q⟩⟩) (hz g g3) (by
    rw [Bool.and_eq_true]
    exact ⟨decide_eq_true (by omega), (oV (n + 1)).2 ⟨n, Nat.lt_succ_self n, by rw [Int.toNat_natCast]; exact gA⟩⟩) (by rw [Int.toNat_natCast, no, Bool.and_false])
  omega
structure PrI (c : Cht) (k : Nat) (s : FwS) : Prop where
 len : s.r.length = s.q.length
 ok : ∀ p ∈ s.r, (OS c p = true /\ XN c p = true) /\ (nB c p).mi - 1 <= s.la
 dis : s.r.Pairwise λ a b => (nB c a).mi <= (nA c b).mi
 le : s.q.length <= k
theorem BIL {c : Cht} (h : ChOk c) : ∀ k, k <= c.ns.length -> PrI c k (TQ c k)
 | 0, _ => ⟨rfl, λ p hp => (by cases hp), .nil, Nat.le_refl _⟩
 | k + 1, hk => by
  have ih := BIL h k (by omega)
  have I := ANX h k (by omega)
  have hk' : k < c.ns.length := by omega
  have hn := h.n
  have bk := BCY h hk'
  show PrI c (k + 1) (fwN c (TQ c k) (gD (CB c) k) (((CB c).take k).find? (fwP c (TQ c k).la (gD (CB c) k))))
  have lt : ((CB c).take k).length = k := by rw [List.length_take, Sq]; omega
  cases ea : ((CB c).take k).find? (fwP c (TQ c k).la (gD (CB c) k)) with
  | none => exact ⟨ih.len, ih.ok, ih.dis, Nat.le_succ_of_le ih.le⟩
  | some a =>
   have am := List.mem_of_find?_eq_some ea
   have ap := List.find?_some ea
   obtain ⟨j, hj, ej⟩ := XR am
   rw [lt] at hj
   rw [Qd hj] at ej
   subst ej
   obtain ⟨p1, p2⟩ := (BGU h (show j < _ by omega) hk').1 ap
   have jk := BLH h hj hk'
   have bj := BCY h (show j < _ by omega)
   have hm40 := h.m
   have lt' : XN c ⟨gD (CB c) j, gD (CB c) k⟩ = true := by
    unfold fwP at ap
    cases q : decide (miA c (gD (CB c) j) > (TQ c k).la) with
    | true => rw [q] at ap; exact ap
    | false => rw [q] at ap; cases ap
   obtain ⟨ja, ja1, ja2⟩ := pC c (show j < _ by omega)
   obtain ⟨ka, ka1, ka2⟩ := pC c hk'
   have eA : (nA c ⟨gD (CB c) j, gD (CB c) k⟩).mi = mO c j := rfl
   have eB : (nB c ⟨gD (CB c) j, gD (CB c) k⟩).mi = mO c k := rfl
   have pm : OS c ⟨gD (CB c) j, gD (CB c) k⟩ = true := by
    unfold OS
    have q1 : uT c.ns.length ⟨gD (CB c) j, gD (CB c) k⟩ = true := by
     unfold uT wr Fw
     rw [PE (by omega) (by omega), ja2, ka2]
     simp only [Bool.and_eq_true, decide_eq_true_eq]
     omega
    have q2 : (!((Pr.mk (gD (CB c) j) (gD (CB c) k)).a == (Pr.mk (gD (CB c) j) (gD (CB c) k)).b && (Pr.mk (gD (CB c) j) (gD (CB c) k)).b == (Pr.mk (gD (CB c) j) (gD (CB c) k)).a)) = true := by
     show (!(gD (CB c) j == gD (CB c) k && gD (CB c) k == gD (CB c) j)) = true
     have ne : gD (CB c) j ≠ gD (CB c) k := λ e => by
      have : mO c j = mO c k := by unfold mO; rw [e]
      omega
     simp [ne]
    rw [q1, q2, eA, eB]
    exact decide_eq_true jk
   have e : wr (miA c (gD (CB c) k) - 1) = mO c k - 1 := PE (by show -9223372036854775808 <= mO c k - 1; omega) (by show mO c k - 1 <= 9223372036854775807; omega)
   show PrI c (k + 1) ⟨wr (miA c (gD (CB c) k) - 1), (TQ c k).q ++ [wr (miA c (gD (CB c) k) - 1)], (TQ c k).r ++ [⟨gD (CB c) j, gD (CB c) k⟩]⟩
   rw [e]
   refine ⟨?_, λ p hp => ?_, ?_, ?_⟩
   ·show ((TQ c k).r ++ [_]).length = ((TQ c k).q ++ [_]).length
    rw [List.length_append, List.length_append, ih.len]; rfl
   ·show _ /\ (nB c p).mi - 1 <= mO c k - 1
    rcases List.mem_append.1 hp with hp | hp
    ·obtain ⟨q1, q2⟩ := ih.ok p hp
     exact ⟨q1, by omega⟩
    ·obtain rfl := List.mem_singleton.1 hp
     exact ⟨⟨pm, lt'⟩, by rw [eB]; omega⟩
   ·show ((TQ c k).r ++ [_]).Pairwise _
    rw [List.pairwise_append]
    refine ⟨ih.dis, List.pairwise_singleton _ _, λ p hp q hq => ?_⟩
    obtain rfl := List.mem_singleton.1 hq
    have := (ih.ok p hp).2
    rw [eA]; omega
   ·show ((TQ c k).q ++ [_]).length <= k + 1
    have := ih.le
    rw [List.length_append]; show _ + 1 <= _; omega
end Go.Bal
