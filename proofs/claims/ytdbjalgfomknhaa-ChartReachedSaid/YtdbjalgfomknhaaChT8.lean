/- Package chart: what Stage, Peak and First return, by truths (no program in sight). -/
import Derived.Test.YtdbjalgfomknhaaChT4
import Derived.Test.YtdbjalgfomknhaaChJ
import Derived.Test.YtdbjalgfomknhaaChT6
set_option linter.unusedVariables false
set_option linter.unusedSimpArgs false
namespace Go.Bal
open Go Go.Sym Go.Proofs
theorem DBU (a b : Int) : DD a b = a /\ b <= a ∨ DD a b = b /\ a <= b := by unfold DD; split <;> omega
theorem DHU (a b : Int) : RN a b = a /\ a <= b ∨ RN a b = b /\ b <= a := by unfold RN; split <;> omega
def HulIs (h : Hul) (S : Span -> Prop) : Prop := (h.m = true -> (∃ s, S s /\ s.lo = h.s.lo) /\ ∃ s, S s /\ s.hi = h.s.hi) /\ ∀ s, S s -> h.m = true /\ h.s.lo <= s.lo /\ s.hi <= h.s.hi
theorem HulIs.zero {S : Span -> Prop} (h : ∀ s, ¬ S s) : HulIs zHul S := ⟨λ h => (by cases h), λ s hs => absurd hs (h s)⟩
theorem HulIs.ext {h : Hul} {S T : Span -> Prop} (hs : HulIs h S) (e : ∀ s, S s ↔ T s) : HulIs h T :=
 ⟨λ hm => let ⟨⟨a, a1, a2⟩, b, b1, b2⟩ := hs.1 hm; ⟨⟨a, (e a).1 a1, a2⟩, b, (e b).1 b1, b2⟩, λ s q => hs.2 s ((e s).2 q)⟩
theorem HulIs.add {h : Hul} {S : Span -> Prop} (hs : HulIs h S) (x : Span) : HulIs (RC h x) λ s => S s ∨ s = x := by
 cases hm : h.m with
 | false =>
  have no : ∀ s, ¬ S s := λ s q => by have := (hs.2 s q).1; rw [hm] at this; cases this
  have e : RC h x = ⟨x, true⟩ := by unfold RC; rw [hm]; rfl
  rw [e]
  exact ⟨λ _ => ⟨⟨x, .inr rfl, rfl⟩, x, .inr rfl, rfl⟩, λ s q => q.elim (λ q => absurd q (no s)) λ q => by subst q; exact ⟨rfl, Int.le_refl _, Int.le_refl _⟩⟩
 | true =>
  have e : RC h x = ⟨⟨RN x.lo h.s.lo, DD x.hi h.s.hi⟩, true⟩ := by unfold RC; rw [hm]; rfl
  obtain ⟨⟨a, a1, a2⟩, b, b1, b2⟩ := hs.1 hm
  have m1 := DLL x.lo h.s.lo
  have m2 := CWG x.hi h.s.hi
  rw [e]
  refine ⟨λ _ => ⟨?_, ?_⟩, λ s q => ⟨rfl, ?_, ?_⟩⟩
  ·show ∃ s, (S s ∨ s = x) /\ s.lo = RN x.lo h.s.lo
   rcases DHU x.lo h.s.lo with ⟨q, _⟩ | ⟨q, _⟩ <;> rw [q]
   ·exact ⟨x, .inr rfl, rfl⟩
   ·exact ⟨a, .inl a1, a2⟩
  ·show ∃ s, (S s ∨ s = x) /\ s.hi = DD x.hi h.s.hi
   rcases DBU x.hi h.s.hi with ⟨q, _⟩ | ⟨q, _⟩ <;> rw [q]
   ·exact ⟨x, .inr rfl, rfl⟩
   ·exact ⟨b, .inl b1, b2⟩
  ·show RN x.lo h.s.lo <= s.lo
   rcases q with q | q
   ·have := (hs.2 s q).2; omega
   ·subst q; exact m1.1
  ·show s.hi <= DD x.hi h.s.hi
   rcases q with q | q
   ·have := (hs.2 s q).2; omega
   ·subst q; exact m2.1
theorem CRJ {a : CZ} (h : ChOk a.c) (hr : AS a = 0) {l : List Span} (hl : l.length = a.c.ms.length) (hb : ∀ i, i < a.c.ms.length -> Dg 1000000000 (gD l i)) {Q : Nat -> Int -> Prop} (hq : ∀ i, i < a.c.ms.length -> ∀ x, (gD l i).has x ↔ (gD (GV a) i).has x /\ Q i x) : (CR (AB a) l).all DZ = true ↔ ∃ u, TrC a.c (AB a).sp u /\ ∀ i, i < a.c.ms.length -> Q i (u i) := by
 have hm := h.m
 have b1 : gpOk (BM (AB a)) (a.c.ms.length - 1) := BIK (w := AB a) h
 have b2 : ∀ g, g < a.c.ms.length - 1 -> (BM (AB a) g).lo <= (BM (AB a) g).hi := BLA (w := AB a) h
 rw [DER (by omega) (by omega) (λ i hi => hb i (by omega)) (by rw [hl]; exact b1) (by rw [hl]; exact b2), hl]
 constructor
 ·rintro ⟨u, hu⟩
  refine ⟨u, ⟨λ i hi => ?_, λ k hk => ?_⟩, λ i hi => ((hq i hi _).1 (hu.at_ i (by omega))).2⟩
  ·obtain ⟨v, v1, v2⟩ := (BOE h hr (by omega)).1 ((hq i (by omega) _).1 (hu.at_ i hi)).1
   have := v1.note (i := i) (by omega)
   rw [v2] at this; exact this
  ·have := hu.gap k hk
   rw [Cx (w := AB a) h (by show k + 1 < a.c.ms.length; omega)] at this; exact this
 ·rintro ⟨u, hu, uq⟩
  refine ⟨u, λ i hi => (hq i (by omega) _).2 ⟨(BOE h hr (by omega)).2 ⟨u, hu, rfl⟩, uq i (by omega)⟩, λ k hk => ?_⟩
  have := hu.gap k hk
  rw [Cx (w := AB a) h (by show k + 1 < a.c.ms.length; omega)]; exact this
theorem TrC.bd {c : Cht} (h : ChOk c) {sp : Nat -> Bool} {u : Nat -> Int} (hu : TrC c sp u) {i : Nat} (hi : i < c.ms.length) : -100000000 <= u i /\ u i <= 100000000 := by
 have n := hu.note hi
 have b := (CFH h (i : Int)).1
 unfold Dg at b
 unfold Span.has at n
 omega
theorem TrC.inc {c : Cht} (h : ChOk c) {sp : Nat -> Bool} {u : Nat -> Int} (hu : TrC c sp u) {g : Nat} (hg : g + 1 < c.ms.length) : u g < u (g + 1) := by
 have a := (hu.gap g (by omega)).1
 have b := (h.gap sp hg).1
 have a : c.p.lo * RP c g <= u (g + 1) - u g := a
 omega
theorem TrC.lt {c : Cht} (h : ChOk c) {sp : Nat -> Bool} {u : Nat -> Int} (hu : TrC c sp u) {i : Nat} : ∀ {j : Nat}, i < j -> j < c.ms.length -> u i < u j
 | j + 1, hij, hj => by
  have := hu.inc h hj
  rcases Nat.lt_or_ge i j with q | q
  ·have := hu.lt h q (by omega); omega
  ·obtain rfl : i = j := by omega
   exact this
theorem TrC.le {c : Cht} (h : ChOk c) {sp : Nat -> Bool} {u : Nat -> Int} (hu : TrC c sp u) {i j : Nat} (hij : i <= j) (hj : j < c.ms.length) : u i <= u j := by
 rcases Nat.lt_or_ge i j with q | q
 ·exact Int.le_of_lt (hu.lt h q hj)
 ·obtain rfl : i = j := by omega
  exact Int.le_refl _
theorem AFG {c : Cht} {i : Nat} (hi : i < c.ms.length) : gD (BE c) i = FN c i := BD _ _ _ hi
end Go.Bal

namespace Go.Bal
open Go Go.Sym Go.Proofs
theorem DGJ {a : CZ} (h : ChOk a.c) (hz : okZ a = true) (hs : FG a.c = true) {t : Nat -> Int} (ht : TrC a.c (AB a).sp t) : AS a = 0 := by
 unfold AS
 rw [BNU.2 h, hz, (BRT (w := AB a) h).2 ⟨hs, t, ht⟩]; rfl
theorem CTG {c : Cht} (h : FG c = true) {i : Nat} (hi : i < c.ms.length) : (gD (BE c) i).lo <= (gD (BE c) i).hi := ACG.1 h i (by rw [Eo]; exact hi)
theorem MadeF.stg {a : MkI} (h : MadeF a) : FG (ID a) = true := ACG.2 λ i hi => by
 rw [Eo] at hi
 rw [AFG hi]
 exact Int.le_trans (h.st i hi).1 (h.st i hi).2
theorem MadeF.read {a : MkI} (h : MadeF a) {z : List Int} (hz : okZ ⟨ID a, z⟩ = true) (hs : ∀ g ∈ (mdT a).z, g ∈ z) : AS ⟨ID a, z⟩ = 0 /\ TrC (ID a) (AB ⟨ID a, z⟩).sp (gD (mdT a).t) := by
 have t := h.tr (AB ⟨ID a, z⟩).sp λ g hg => (DJJ (a := ⟨ID a, z⟩) h.ok.m hz g).2 (hs _ hg)
 exact ⟨DGJ (a := ⟨ID a, z⟩) h.ok hz h.stg t, t⟩
theorem DJZ {bs : List Int} (h : ∀ i, i < bs.length -> 0 <= gD bs i /\ gD bs i <= 255) {m : Int} {b : Bool} (hm : 1 <= m /\ m <= 14) : preM ⟨⟨bs, 0, 0⟩, m, b⟩ := ⟨⟨⟨Int.le_refl _, Int.le_refl _⟩, ⟨Int.le_refl _, by show (0 : Int) < 251; omega⟩, h⟩, hm⟩
theorem DSA {bs : List Int} (h : ∀ i, i < bs.length -> 0 <= gD bs i /\ gD bs i <= 255) : StmB 0 ⟨bs, 0, 0⟩ := ⟨⟨Int.le_refl _, Int.le_refl _⟩, ⟨Int.le_refl _, by show (0 : Int) < 251; omega⟩, h⟩
end Go.Bal
