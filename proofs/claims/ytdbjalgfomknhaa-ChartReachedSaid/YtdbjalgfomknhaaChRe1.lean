/- Law ChartReached: what is asked is so. -/
import Derived.Test.YtdbjalgfomknhaaChRe
import Derived.Test.YtdbjalgfomknhaaChT10
set_option linter.unusedVariables false
set_option linter.unusedSimpArgs false
namespace Go.Bal
open Go Go.Sym Go.Proofs
theorem CRD (v : Int) {n : Int} (hn : 1 <= n /\ n <= 1000000000000) : 0 <= QC v n /\ QC v n < n := by
 unfold QC
 rw [if_neg (by omega)]
 have h1 := Int.tmod_lt_of_pos v (show 0 < n by omega)
 have h2 : -n < v.tmod n := by
  have := Int.lt_tmod_of_pos v (show 0 < n by omega)
  omega
 split
 ·have e : wr (v.tmod n + n) = v.tmod n + n := EN (by omega) (by omega)
  rw [e]; omega
 ·omega
theorem DQC {c : Cht} (h : ChOk c) (hs : FG c = true) {i : Nat} (hi : i < c.ms.length) : Dg 3000000 (gD (BE c) i) := by
 have hle := CTG hs hi
 rw [AFG hi] at hle ⊢
 have b := h.b
 have sc := h.sc
 have o := h.of
 have ht := (h.mks i hi).2
 have m := mulb (a := c.scale) (b := (gD c.ms i).ht) (A := 1000) (B := 1000) sc.1 sc.2 ht.1 ht.2
 have e1 : wr (c.scale * (gD c.ms i).ht) = c.scale * (gD c.ms i).ht := EN (by omega) (by omega)
 have e2 : atM c (i : Int) = c.base + c.scale * (gD c.ms i).ht := by
  show wr (c.base + wr (c.scale * (gD c.ms i).ht)) = _
  rw [e1]; exact EN (by omega) (by omega)
 have e3 : (st0 c (i : Int)).lo = c.base + c.scale * (gD c.ms i).ht - c.off := by
  show wr (atM c (i : Int) - c.off) = _
  rw [e2]; exact EN (by omega) (by omega)
 have e4 : (st0 c (i : Int)).hi = c.base + c.scale * (gD c.ms i).ht + c.off := by
  show wr (atM c (i : Int) + c.off) = _
  rw [e2]; exact EN (by omega) (by omega)
 have q : (st0 c (i : Int)).lo <= (FN c (i : Int)).lo /\ (FN c (i : Int)).hi <= (st0 c (i : Int)).hi := by
  unfold FN
  cases hasN c.ns (i : Int) with
  | false => exact ⟨Int.le_refl _, Int.le_refl _⟩
  | true => exact ⟨COU _ _, CGH _ _⟩
 unfold Dg; omega
theorem TrC.cong {c : Cht} {sp : Nat -> Bool} {u v : Nat -> Int} (h : TrC c sp u) (hm : 1 <= c.ms.length) (e : ∀ i, i < c.ms.length -> u i = v i) : TrC c sp v :=
 ⟨λ i hi => by rw [<- e i (by omega)]; exact h.at_ i hi, λ g hg => by rw [<- e g (by omega), <- e (g + 1) (by omega)]; exact h.gap g hg⟩
theorem DGY {a : CZ} (h : ChOk a.c) (hr : AS a = 0) {u f : Nat -> Int} (hu : TrC a.c (AB a).sp u) : (IK ⟨a.c, ⟨AF a.c.ms.length u, AF a.c.ms.length f, a.z⟩⟩).2 = 0 /\ ((IK ⟨a.c, ⟨AF a.c.ms.length u, AF a.c.ms.length f, a.z⟩⟩).1 = true ↔ ∀ i, i < a.c.ms.length -> (gD (BE a.c) i).has (f i)) := by
 have hm := h.m
 have eu : ∀ i, i < a.c.ms.length -> gD (AF a.c.ms.length u) i = u i := λ i hi => BD _ _ _ hi
 obtain ⟨q1, q2⟩ := DGQ (x := ⟨a.c, ⟨AF a.c.ms.length u, AF a.c.ms.length f, a.z⟩⟩) h (PO hr).2.1 (rng_length _ _) (rng_length _ _) (λ i hi => by
  show -100000000 <= gD (AF a.c.ms.length u) i /\ gD (AF a.c.ms.length u) i <= 100000000
  rw [eu i hi]; exact hu.bd h hi)
 refine ⟨q1, q2.trans ⟨λ w i hi => ?_, λ w => ⟨hu.cong hm.1 λ i hi => (eu i hi).symm, λ i hi => ?_⟩⟩⟩
 ·have := w.2 i hi
  have this : (FN a.c i).has (gD (AF a.c.ms.length f) i) := this
  rw [BD _ _ _ hi] at this
  rw [AFG hi]; exact this
 ·show (FN a.c i).has (gD (AF a.c.ms.length f) i)
  have hi : i < a.c.ms.length := hi
  rw [BD _ _ _ hi, <- AFG hi]; exact w i hi
theorem DKE {a : CZ} (hr : AS a = 0) : timR a = (GV a, 0) := by
 unfold timR; rw [hr]; rfl
theorem CTI {c : Cht} (h : ChOk c) (hs : FG c = true) : JR c = (BE c, 0) := by
 unfold JR
 rw [BNU.2 h, hs]; rfl
theorem DLN {a : CZ} (h : ChOk a.c) (hr : AS a = 0) {m : Int} (hm : 0 <= m /\ m < a.c.ms.length) {t : Int} (ht : (gD (GV a) m.toNat).has t) : (PG ⟨a, m, t⟩).all DZ = true /\ TrC a.c (AB a).sp (To ⟨a, m, t⟩) /\ To ⟨a, m, t⟩ m.toNat = t := by
 have b := DBI h hr (show m.toNat < a.c.ms.length by omega)
 have bt : -1000000000 <= t /\ t <= 1000000000 := by
  unfold Dg at b; unfold Span.has at ht; omega
 have k := (CYG (x := ⟨a, m, t⟩) h hr hm bt).2 ((BOE h hr (show m.toNat < a.c.ms.length by omega)).1 ht)
 exact ⟨k, DQK (x := ⟨a, m, t⟩) h hr hm bt k⟩
theorem DMW {a : CZ} (h : ChOk a.c) (hr : AS a = 0) {m : Int} (hm : 0 <= m /\ m < a.c.ms.length) {t : Int} (bt : -1000000000 <= t /\ t <= 1000000000) (ht : ¬ (gD (GV a) m.toNat).has t) : (PG ⟨a, m, t⟩).all DZ = false := by
 cases hk : (PG ⟨a, m, t⟩).all DZ with
 | false => rfl
 | true => exact absurd ((BOE h hr (show m.toNat < a.c.ms.length by omega)).2 ((CYG (x := ⟨a, m, t⟩) h hr hm bt).1 hk)) ht
theorem DIE {s : Span} (hs : s.lo <= s.hi) (hb : Dg 100000000 s) (v : Int) : s.has s.lo /\ s.has s.hi /\ s.has (wr (s.lo + QC v (wr (wr (s.hi - s.lo) + 1)))) /\ wr (s.lo - 1) = s.lo - 1 /\ wr (s.hi + 1) = s.hi + 1 := by
 unfold Dg at hb
 have e1 : wr (s.hi - s.lo) = s.hi - s.lo := EN (by omega) (by omega)
 have e2 : wr (s.hi - s.lo + 1) = s.hi - s.lo + 1 := EN (by omega) (by omega)
 rw [e1, e2]
 have p := CRD v (n := s.hi - s.lo + 1) (by omega)
 generalize QC v (s.hi - s.lo + 1) = P at *
 have e3 : wr (s.lo + P) = s.lo + P := EN (by omega) (by omega)
 rw [e3]
 refine ⟨⟨Int.le_refl _, hs⟩, ⟨hs, Int.le_refl _⟩, ⟨by omega, by omega⟩, EN (by omega) (by omega), EN (by omega) (by omega)⟩
theorem DLY {a : CZ} (h : ChOk a.c) (hr : AS a = 0) {u : Nat -> Int} (hu : TrC a.c (AB a).sp u) {m : Nat} (hm : m < a.c.ms.length) {v : Int} {f : Nat -> Int} (hf : ∀ i, i < a.c.ms.length -> i ≠ m -> f i = (gD (BE a.c) i).lo) :
  IK ⟨a.c, ⟨AF a.c.ms.length u, AF a.c.ms.length λ i => bif decide (i = m) then v else f i, a.z⟩⟩ = (decide ((gD (BE a.c) m).lo <= v /\ v <= (gD (BE a.c) m).hi), 0) := by
 have hs := ((BRT (w := AB a) h).1 (PO hr).2.2).1
 obtain ⟨q1, q2⟩ := DGY h hr hu (f := λ i => bif decide (i = m) then v else f i)
 have q3 : (IK ⟨a.c, ⟨AF a.c.ms.length u, AF a.c.ms.length λ i => bif decide (i = m) then v else f i, a.z⟩⟩).1 = decide ((gD (BE a.c) m).lo <= v /\ v <= (gD (BE a.c) m).hi) := by
  rw [Bool.eq_iff_iff, q2, decide_eq_true_eq]
  constructor
  ·intro w
   have := w m hm
   rw [decide_eq_true rfl] at this
   exact this
  ·intro w i hi
   show (gD (BE a.c) i).has (bif decide (i = m) then v else f i)
   by_cases e : i = m
   ·subst e; rw [decide_eq_true rfl]; exact w
   ·rw [decide_eq_false e]
    show (gD (BE a.c) i).has (f i)
    rw [hf i hi e]
    exact ⟨Int.le_refl _, CTG hs hi⟩
 exact Prod.ext q3 q1
theorem DRO {x : ReI} {j i : Nat} (hi : i < (BN x).ms.length) (e : i ≠ (KA x).toNat) : reR x j i = (gD (BE (BN x)) i).lo := by
 unfold reR
 rw [decide_eq_false e, AFG hi]
 cases decide (j = 0) <;> rfl
theorem zlen {c : Cht} {z : List Int} (h : ChOk c) (hz : okZ ⟨c, z⟩ = true) : z.length <= 40 := by
 have hm := h.m
 obtain ⟨q1, q2⟩ := (CKI (a := ⟨c, z⟩) hm).1 hz
 dsimp only at q1 q2
 rcases CWD q2 (a := 0) (b := 40) (λ g hg => by have := q1 g hg; omega) with q | q
 ·omega
 ·rw [q]; decide
theorem gD_3 (a b c : Int) : gD [a, b, c] 0 = a /\ gD [a, b, c] 1 = b /\ gD [a, b, c] 2 = c := ⟨rfl, rfl, rfl⟩
structure ReF (x : ReI) : Prop where
 pre : preM (reM x)
 md : MadeF (reM x)
 rd : AS (reZ x) = 0
 tm : timR (reZ x) = (reL x, 0)
 st : JR (BN x) = (reS x, 0)
 zl : (ZD x).z.length <= 40
 nl : (1 <= (BN x).ms.length /\ (BN x).ms.length <= 40) /\ (BN x).ns.length <= 20
 sb : StmB 0 ⟨x.bs, 0, 0⟩
 ll : (reL x).length = (BN x).ms.length /\ (reS x).length = (BN x).ms.length
 ix : 0 <= KA x /\ KA x < (BN x).ms.length
 tr : ∀ k, k < 3 -> (PG (Zz x k)).all DZ = true /\ To (Zz x k) (KA x).toNat = gD (reV x) k
 h1 : ∀ k, k < 3 -> ∀ j v, IK ⟨BN x, ⟨AF (BN x).ms.length (To (Zz x k)), AF (BN x).ms.length λ i => bif decide (i = (KA x).toNat) then v else reR x j i, (ZD x).z⟩⟩ = (decide ((reB x).lo <= v /\ v <= (reB x).hi), 0)
 bl : (reB x).lo <= (reB x).hi /\ wr ((reB x).hi + 1) = (reB x).hi + 1
 lo : (PG ⟨reZ x, KA x, wr ((Y5 x).lo - 1)⟩).all DZ = false
 hi : (PG ⟨reZ x, KA x, wr ((Y5 x).hi + 1)⟩).all DZ = false
theorem DIA (x : ReI) (hb : ∀ i, i < x.bs.length -> 0 <= gD x.bs i /\ gD x.bs i <= 255) : ReF x := by
 have hpre : preM (reM x) := DJZ hb (by omega)
 have hM := DVO hpre
 have hok : ChOk (reZ x).c := hM.ok
 have hrd : AS (reZ x) = 0 := (hM.read (z := (ZD x).z) hM.z (λ g hg => hg)).1
 have n1 : 1 <= (BN x).ms.length /\ (BN x).ms.length <= 40 := hM.ok.m
 have hix : 0 <= KA x /\ KA x < (BN x).ms.length := CRD x.m (n := ((BN x).ms.length : Int)) (by omega)
 have hin : (KA x).toNat < (BN x).ms.length := by omega
 have hsA : (Y5 x).lo <= (Y5 x).hi := DMS hrd hin
 have hbA : Dg 100000000 (Y5 x) := DBI hok hrd hin
 obtain ⟨t1, t2, t3, t4, t5⟩ := DIE hsA hbA x.t
 have hsB : (reB x).lo <= (reB x).hi := CTG hM.stg hin
 have hbB : Dg 3000000 (reB x) := DQC hM.ok hM.stg hin
 have hv : ∀ k, k < 3 -> (Y5 x).has (gD (reV x) k) := λ k hk => by
  obtain ⟨e0, e1, e2⟩ : gD (reV x) 0 = (Y5 x).lo /\ gD (reV x) 1 = (Y5 x).hi /\ gD (reV x) 2 = reX x := gD_3 (Y5 x).lo (Y5 x).hi (reX x)
  have t3' : (Y5 x).has (reX x) := t3
  match k, hk with
  | 0, _ => rw [e0]; exact t1
  | 1, _ => rw [e1]; exact t2
  | 2, _ => rw [e2]; exact t3'
 have core := λ k (hk : k < 3) => DLN hok hrd hix (hv k hk)
 refine ⟨hpre, hM, hrd, DKE hrd, CTI hM.ok hM.stg, zlen hM.ok hM.z, ⟨n1, hM.ok.n⟩, DSA hb, ⟨BIX (a := reZ x) hrd, Eo _⟩, hix, λ k hk => ⟨(core k hk).1, (core k hk).2.2⟩, λ k hk j v => ?_, ⟨hsB, ?_⟩, ?_, ?_⟩
 ·have hu : TrC (reZ x).c (AB (reZ x)).sp (To (Zz x k)) := (core k hk).2.1
  have H := DLY (a := reZ x) hok hrd hu hin (v := v) (f := reR x j) (λ i hi e => DRO hi e)
  have ec : (reZ x).c = BN x := by simp only [reZ]
  have ez : (reZ x).z = (ZD x).z := by simp only [reZ]
  have eb : gD (BE (BN x)) (KA x).toNat = reB x := rfl
  rw [ec, ez, eb] at H
  exact H
 ·unfold Dg at hbB; exact EN (by omega) (by omega)
 ·rw [t4]
  unfold Dg at hbA
  refine DMW hok hrd hix (by omega) λ q => ?_
  have q : (Y5 x).lo <= (Y5 x).lo - 1 := q.1
  omega
 ·rw [t5]
  unfold Dg at hbA
  refine DMW hok hrd hix (by omega) λ q => ?_
  have q : (Y5 x).hi + 1 <= (Y5 x).hi := q.2
  omega
end Go.Bal
