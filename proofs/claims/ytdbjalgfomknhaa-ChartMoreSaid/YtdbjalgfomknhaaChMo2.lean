/- Law ChartMore: what is asked is so, of charts that are made. -/
import Derived.Test.YtdbjalgfomknhaaChMo1
set_option linter.unusedVariables false
set_option linter.unusedSimpArgs false
namespace Go.Bal
open Go Go.Sym Go.Proofs
theorem CQI : ∀ (m n : Nat) (f : Nat -> Nat), (∀ i, i < n -> f i < m) -> (∀ i j, i < j -> j < n -> f i ≠ f j) -> n <= m
 | 0, n, f, h, _ => by
  rcases Nat.eq_zero_or_pos n with q | q
  ·omega
  ·exact absurd (h 0 q) (Nat.not_lt_zero _)
 | m + 1, n, f, h, inj => by
  by_cases hx : ∃ i, i < n /\ f i = m
  ·obtain ⟨i, i1, i2⟩ := hx
   have := CQI m (n - 1) (λ j => if j = i then f (n - 1) else f j) (λ j hj => by
    have hl := h (n - 1) (by omega)
    split
    ·rename_i e
     have : f (n - 1) ≠ m := λ q => by
      have := inj i (n - 1) (by omega) (by omega); rw [i2, q] at this; exact this rfl
     omega
    ·rename_i e
     have hl := h j (by omega)
     have : f j ≠ m := λ q => by
      rcases Nat.lt_or_gt_of_ne e with r | r
      ·exact inj j i r i1 (by rw [q, i2])
      ·exact inj i j r (by omega) (by rw [i2, q])
     omega) (λ j k hjk hk => by
    by_cases e1 : j = i
    ·rw [if_pos e1, if_neg (by omega)]
     exact λ q => inj k (n - 1) (by omega) (by omega) q.symm
    ·rw [if_neg e1]
     by_cases e2 : k = i
     ·rw [if_pos e2]; exact inj j (n - 1) (by omega) (by omega)
     ·rw [if_neg e2]; exact inj j k hjk (by omega))
   omega
  ·have := CQI m n f (λ i hi => by
    have := h i hi
    have : f i ≠ m := λ q => hx ⟨i, hi, q⟩
    omega) inj
   omega
theorem ChOk.few {c : Cht} (h : ChOk c) : c.ns.length <= c.ms.length :=
 CQI c.ms.length c.ns.length (λ i => (gD c.ns i).mi.toNat) (λ i hi => by
  have := (h.nt _ (CT hi)).mi
  omega) (λ i j hij hj => by
  have a := (h.nt _ (CT (show i < c.ns.length by omega))).mi
  have b := (h.nt _ (CT hj)).mi
  have := h.one i j hij hj
  omega)
structure SubC (c : Cht) (z : List Int) (d : Cht) (y : List Int) : Prop where
 con : XA ⟨CK ⟨c, z⟩, CK ⟨d, y⟩⟩ = true
 st : ∀ t, (∃ s, StS ⟨d, y⟩ t s) -> (AW ⟨⟨c, z⟩, t⟩).2 = 0 /\ (AW ⟨⟨d, y⟩, t⟩).2 = 0 /\ (AW ⟨⟨c, z⟩, t⟩).1.lo <= (AW ⟨⟨d, y⟩, t⟩).1.lo /\ (AW ⟨⟨d, y⟩, t⟩).1.hi <= (AW ⟨⟨c, z⟩, t⟩).1.hi
theorem subC {c d : Cht} {z y : List Int} (hc : ChOk c) (hd : ChOk d) (rc : AS ⟨c, z⟩ = 0) (rd : AS ⟨d, y⟩ = 0) (hn : c.ms.length = d.ms.length) (h : ∀ u, TrC d (AI ⟨d, y⟩).sp u -> TrC c (AI ⟨c, z⟩).sp u) (hs : ∀ i, i < d.ms.length -> (gD (BA c) i).lo <= (gD (BA d) i).lo /\ (gD (BA d) i).hi <= (gD (BA c) i).hi) : SubC c z d y :=
 ⟨DPT (a := ⟨c, z⟩) (b := ⟨d, y⟩) hc hd rc rd hn h, λ t ex => DNX (a := ⟨c, z⟩) (b := ⟨d, y⟩) hc hd rc rd hn h hs ex⟩
theorem CDK {c d : Cht} (hc : ChOk c) (hd : ChOk d) (sd : HP d = true) {sp : Nat -> Bool} {t : Nat -> Int} (hT : TrC d sp t) (h : ∀ sp u, TrC d sp u -> TrC c sp u) : (Af c).q.length <= (CJ d).q.length := by
 obtain ⟨e1, e2, _⟩ := ABH hd sd hT
 obtain ⟨u, hu⟩ := BNW hd hT
 rw [e2]
 exact CWM hc (h _ u hu) (λ g hg => (ACO (a := ⟨d, (Af d).q⟩) hd.m (DDK hd) g).1 hg)
structure ToF (c d : Cht) (z : List Int) (t : Nat -> Int) : Prop where
 ok : ChOk d
 n : d.ns.length <= 12
 e : d.ms = c.ms
 rd : AS ⟨d, z⟩ = 0
 sub : SubC c z d z
 fe : (CJ d).e = 0
 fl : (Af c).q.length <= (CJ d).q.length
 tr : TrC d (AI ⟨d, z⟩).sp t
theorem DHQ {c : Cht} {z : List Int} {t : Nat -> Int} (hc : ChOk c) (hn : c.ns.length <= 12) (rc : AS ⟨c, z⟩ = 0) (hT : TrC c (AI ⟨c, z⟩).sp t) : ToF c c z t := by
 have hs := ((WB (w := AI ⟨c, z⟩) hc).1 (IA rc).2.2).1
 exact ⟨hc, hn, rfl, rc, subC hc hc rc rc rfl (λ u h => h) (λ i _ => ⟨Int.le_refl _, Int.le_refl _⟩), (ABH hc hs hT).1, CDK hc hc hs hT (λ _ _ h => h), hT⟩
theorem DFM {c : Cht} {z : List Int} {t : Nat -> Int} {n : Nt} (h : NtMore c n) (hm : c.ms.length <= 12) (rc : AS ⟨c, z⟩ = 0) (hT : TrC c (AI ⟨c, z⟩).sp t) (ht : n.t.has (t n.mi.toNat)) {st : Nat -> Int} (hst : ∀ i, i < c.ms.length -> (HD c i).has (st i)) (hs : n.s.has (st n.mi.toNat)) : ToF c (EO c n) z t := by
 have hok := DGU h
 have hn := hok.few
 have hn : (EO c n).ns.length <= c.ms.length := hn
 have hz := (IA rc).2.1
 have sok : HP (EO c n) = true := BHJ.2 λ i hi => by
  rw [Ro] at hi
  have hi : i < c.ms.length := hi
  rw [BGE (c := EO c n) hi]
  have q := DEO h hi (hst i hi) (λ e => by rw [show i = n.mi.toNat by omega]; exact hs)
  exact Int.le_trans q.1 q.2
 have hT2 : TrC (EO c n) (AI ⟨EO c n, z⟩).sp t := (CGE h).2 ⟨hT, ht⟩
 have rd : AS ⟨EO c n, z⟩ = 0 := V6 (a := ⟨EO c n, z⟩) hok hz sok hT2
 exact ⟨hok, by omega, rfl, rd, subC h.ok hok rc rd rfl (λ u hu => ((CGE h).1 hu).1) (λ i hi => DBY h hi), (ABH hok sok hT2).1, CDK h.ok hok sok hT2 (λ _ _ hu => ((CGE h).1 hu).1), hT2⟩
structure WiF (c d : Cht) (z : List Int) : Prop where
 ok : ChOk d
 n : d.ns.length <= 12
 rd : AS ⟨d, z⟩ = 0
 sub : SubC d z c z
 fe : (CJ d).e = 0
 fl : (CJ d).q.length <= (CJ c).q.length
theorem DQW {c : Cht} {z : List Int} {t : Nat -> Int} (hc : ChOk c) (hn : c.ns.length <= 12) (rc : AS ⟨c, z⟩ = 0) (hT : TrC c (AI ⟨c, z⟩).sp t) {p : Span} (hp : 1 <= p.lo /\ p.lo <= c.p.lo /\ c.p.hi <= p.hi /\ p.hi <= 600) : WiF c (rY c p) z := by
 have hok := DHJ hc hp
 have hz := (IA rc).2.1
 have hs := ((WB (w := AI ⟨c, z⟩) hc).1 (IA rc).2.2).1
 have hs2 : HP (rY c p) = true := hs
 have hT2 : TrC (rY c p) (AI ⟨rY c p, z⟩).sp t := CDV hc hp hT
 have rd : AS ⟨rY c p, z⟩ = 0 := V6 (a := ⟨rY c p, z⟩) hok hz hs2 hT2
 have fe := ABH hok hs2 hT2
 refine ⟨hok, hn, rd, subC hok hc rd rc rfl (λ u hu => CDV hc hp hu) (λ i _ => ⟨Int.le_refl _, Int.le_refl _⟩), fe.1, ?_⟩
 rw [fe.2.1]
 exact CDK hok hc hs hT (λ _ _ hu => CDV hc hp hu)
structure StF (c : Cht) (z y : List Int) : Prop where
 rd : AS ⟨c, y⟩ = 0
 sub : SubC c y c z
theorem DQC {c : Cht} {z y : List Int} {t : Nat -> Int} (hc : ChOk c) (rc : AS ⟨c, z⟩ = 0) (hT : TrC c (AI ⟨c, z⟩).sp t) (hy : okZ ⟨c, y⟩ = true) (hzy : ∀ g ∈ z, g ∈ y) : StF c z y := by
 have hz := (IA rc).2.1
 have hs := ((WB (w := AI ⟨c, z⟩) hc).1 (IA rc).2.2).1
 have up : ∀ g, (AI ⟨c, z⟩).sp g = true -> (AI ⟨c, y⟩).sp g = true := λ g hg => (ACO (a := ⟨c, y⟩) hc.m hy g).2 (hzy _ ((ACO (a := ⟨c, z⟩) hc.m hz g).1 hg))
 have rd : AS ⟨c, y⟩ = 0 := V6 (a := ⟨c, y⟩) hc hy hs (COS hc up hT)
 exact ⟨rd, subC hc hc rd rc rfl (λ u hu => COS hc up hu) (λ i _ => ⟨Int.le_refl _, Int.le_refl _⟩)⟩
end Go.Bal
