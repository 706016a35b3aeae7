/- Law ChartMore: what is asked is so. -/
import Derived.Test.YtdbjalgfomknhaaChMo
import Derived.Test.YtdbjalgfomknhaaChT7
import Derived.Test.YtdbjalgfomknhaaChT8
set_option linter.unusedVariables false
set_option linter.unusedSimpArgs false
namespace Go.Bal
open Go Go.Sym Go.Proofs
theorem DPT {a b : CZ} (ha : ChOk a.c) (hb : ChOk b.c) (ra : AS a = 0) (rb : AS b = 0) (hn : a.c.ms.length = b.c.ms.length) (h : ∀ u, TrC b.c (AI b).sp u -> TrC a.c (AI a).sp u) : XA ⟨CK a, CK b⟩ = true := by
 have la := PI ra
 have lb := PI rb
 refine DJE.2 ⟨by omega, λ i hi => ?_⟩
 have hi : i < a.c.ms.length := by omega
 have hib : i < b.c.ms.length := by omega
 have le := DLZ rb hib
 obtain ⟨u, u1, u2⟩ := (rU hb rb hib).1 ⟨Int.le_refl _, le⟩
 obtain ⟨v, v1, v2⟩ := (rU hb rb hib).1 ⟨le, Int.le_refl _⟩
 have p := (rU ha ra hi).2 ⟨u, h u u1, u2⟩
 have q := (rU ha ra hi).2 ⟨v, h v v1, v2⟩
 exact ⟨p.1, q.2⟩
theorem DNX {a b : CZ} (ha : ChOk a.c) (hb : ChOk b.c) (ra : AS a = 0) (rb : AS b = 0) (hn : a.c.ms.length = b.c.ms.length) (h : ∀ u, TrC b.c (AI b).sp u -> TrC a.c (AI a).sp u) (hs : ∀ i, i < b.c.ms.length -> (gD (BA a.c) i).lo <= (gD (BA b.c) i).lo /\ (gD (BA b.c) i).hi <= (gD (BA a.c) i).hi) {t : Int} (ex : ∃ s, StS b t s) :
  (AW ⟨a, t⟩).2 = 0 /\ (AW ⟨b, t⟩).2 = 0 /\ (AW ⟨a, t⟩).1.lo <= (AW ⟨b, t⟩).1.lo /\ (AW ⟨b, t⟩).1.hi <= (AW ⟨a, t⟩).1.hi := by
 have ea : AW ⟨a, t⟩ = IF (Lk ⟨a, t⟩) := by unfold AW; rw [show AS (CZI.mk a t).a = 0 from ra]; rfl
 have eb : AW ⟨b, t⟩ = IF (Lk ⟨b, t⟩) := by unfold AW; rw [show AS (CZI.mk b t).a = 0 from rb]; rfl
 have sub : ∀ s, StS b t s -> ∃ r, StS a t r /\ r.lo <= s.lo /\ s.hi <= r.hi := by
  rintro s ⟨u, u1, ⟨i, i1, i2, rfl⟩ | ⟨g, g1, g2, rfl | rfl⟩⟩
  ·exact ⟨_, ⟨u, h u u1, .inl ⟨i, by omega, i2, rfl⟩⟩, hs i i1⟩
  ·exact ⟨_, ⟨u, h u u1, .inr ⟨g, by omega, g2, .inl rfl⟩⟩, hs g (by omega)⟩
  ·exact ⟨_, ⟨u, h u u1, .inr ⟨g, by omega, g2, .inr rfl⟩⟩, hs (g + 1) g1⟩
 have Ia := CNR ha ra t
 have Ib := CNR hb rb t
 obtain ⟨s0, hs0⟩ := ex
 obtain ⟨r0, hr0, _⟩ := sub s0 hs0
 rcases Ia.who with ⟨_, a1, a2, am⟩ | ⟨no, _⟩
 ·rcases Ib.who with ⟨_, b1, b2, bm⟩ | ⟨no, _⟩
  ·rw [ea, eb, a2, b2]
   obtain ⟨⟨x, x1, x2⟩, y, y1, y2⟩ := Ib.1 bm
   obtain ⟨p, p1, p2, _⟩ := sub x x1
   obtain ⟨q, q1, _, q3⟩ := sub y y1
   have k1 := (Ia.2 p p1).2
   have k2 := (Ia.2 q q1).2
   exact ⟨a1, b1, by omega, by omega⟩
  ·exact absurd hs0 (no s0)
 ·exact absurd hr0 (no r0)
theorem BXY {a : CZ} {u : Nat -> Int} (hu : TrC a.c (AI a).sp u) {t : Int} : ∀ n, n + 1 <= a.c.ms.length -> u 0 <= t -> t <= u n -> ∃ s, StS a t s
 | 0, hn, h1, h2 => ⟨_, u, hu, .inl ⟨0, by omega, by omega, rfl⟩⟩
 | n + 1, hn, h1, h2 => by
  rcases Int.lt_or_le (u n) t with q | q
  ·rcases Int.lt_or_le t (u (n + 1)) with r | r
   ·exact ⟨_, u, hu, .inr ⟨n, by omega, ⟨by omega, by omega⟩, .inl rfl⟩⟩
   ·exact ⟨_, u, hu, .inl ⟨n + 1, by omega, by omega, rfl⟩⟩
  ·exact BXY hu n (by omega) h1 q
theorem CWC {l : List Nt} {i : Int} : ∀ {k : Nat}, k <= l.length -> (hsK l i k = true ↔ ∃ j, j < k /\ (gD l j).mi = i)
 | 0, _ => ⟨λ h => (by cases h), λ ⟨j, h, _⟩ => absurd h (Nat.not_lt_zero _)⟩
 | k + 1, h => by
  have ih := CWC (l := l) (i := i) (k := k) (by omega)
  show (bif hsK l i k then true else (gD l k).mi == i) = true ↔ _
  cases hk : hsK l i k with
  | true =>
   obtain ⟨j, j1, j2⟩ := ih.1 hk
   exact ⟨λ _ => ⟨j, by omega, j2⟩, λ _ => rfl⟩
  | false =>
   show ((gD l k).mi == i) = true ↔ _
   rw [beq_iff_eq]
   constructor
   ·intro e; exact ⟨k, Nat.lt_succ_self _, e⟩
   ·rintro ⟨j, j1, j2⟩
    rcases Nat.lt_or_ge j k with q | q
    ·rw [ih.2 ⟨j, q, j2⟩] at hk; cases hk
    ·obtain rfl : j = k := by omega
     exact j2
theorem CUY (l : List Nt) (i : Int) : hsK l i l.length = hasN l i := by
 rw [Bool.eq_iff_iff, CWC (Nat.le_refl _), VQ]
 constructor
 ·rintro ⟨j, j1, j2⟩; exact ⟨_, CT j1, j2⟩
 ·rintro ⟨n, n1, n2⟩
  obtain ⟨j, j1, j2⟩ := KQ n1
  exact ⟨j, j1, by rw [j2]; exact n2⟩
theorem DDQ (c : Cht) : ∀ k, Gy c k = -1 ∨ (0 <= Gy c k /\ Gy c k < k /\ hasN c.ns (Gy c k) = false)
 | 0 => .inl rfl
 | k + 1 => by
  show (bif hasN c.ns (k : Int) then Gy c k else (k : Int)) = -1 ∨ _
  cases hk : hasN c.ns (k : Int) with
  | true =>
   have e : Gy c (k + 1) = Gy c k := by show (bif hasN c.ns (k : Int) then Gy c k else (k : Int)) = _; rw [hk]; rfl
   rw [e]
   rcases DDQ c k with h | ⟨h1, h2, h3⟩
   ·exact .inl h
   ·exact .inr ⟨h1, by omega, h3⟩
  | false =>
   have e : Gy c (k + 1) = (k : Int) := by show (bif hasN c.ns (k : Int) then Gy c k else (k : Int)) = _; rw [hk]; rfl
   rw [e]
   exact .inr ⟨by omega, by omega, hk⟩
theorem AOE {c : Cht} {n : Nt} (hn : hasN c.ns n.mi = false) (j : Int) : KE ⟨c.p, c.base, c.scale, c.off, c.ms, c.ns ++ [n]⟩ j = bif decide (j = n.mi) then n.t else KE c j := by
 unfold KE
 show (bif hasN (c.ns ++ [n]) j then (ntOf (c.ns ++ [n]) j).t else farS) = _
 rw [oR, AZY]
 unfold KJ
 by_cases q : j = n.mi
 ·rw [decide_eq_true q]; rfl
 ·rw [decide_eq_false q]; rfl
theorem CCO {c : Cht} {n : Nt} (hn : hasN c.ns n.mi = false) (j : Int) : HD ⟨c.p, c.base, c.scale, c.off, c.ms, c.ns ++ [n]⟩ j = bif decide (j = n.mi) then oI (HD c j) n.s else HD c j := by
 unfold HD
 show (bif hasN (c.ns ++ [n]) j then oI (st0 c j) (ntOf (c.ns ++ [n]) j).s else st0 c j) = _
 rw [oR, AZY]
 unfold KJ
 by_cases q : j = n.mi
 ·rw [decide_eq_true q]
  subst q
  rw [hn]; rfl
 ·rw [decide_eq_false q]; rfl
structure NtMore (c : Cht) (n : Nt) : Prop where
 ok : ChOk c
 no : hasN c.ns n.mi = false
 nt : NtOk c.ms.length n
 len : c.ns.length <= 19
def EO (c : Cht) (n : Nt) : Cht := ⟨c.p, c.base, c.scale, c.off, c.ms, c.ns ++ [n]⟩
theorem DGU {c : Cht} {n : Nt} (h : NtMore c n) : ChOk (EO c n) := by
 have hc := h.ok
 refine ⟨hc.m, by show (c.ns ++ [n]).length <= 20; rw [List.length_append]; have := h.len; show c.ns.length + 1 <= 20; omega, hc.p, hc.b, hc.sc, hc.of, hc.mks, hc.up, λ m hm => ?_, λ i j hij hj => ?_⟩
 ·rcases List.mem_append.1 hm with hm | hm
  ·exact hc.nt m hm
  ·rw [List.mem_singleton.1 hm]; exact h.nt
 ·have hj : j < (c.ns ++ [n]).length := hj
  rw [List.length_append] at hj
  have hj : j < c.ns.length + 1 := hj
  show (gD (c.ns ++ [n]) i).mi ≠ (gD (c.ns ++ [n]) j).mi
  rw [KI _ _ (show i < c.ns.length by omega)]
  rcases Nat.lt_or_ge j c.ns.length with q | q
  ·rw [KI _ _ q]; exact hc.one i j hij q
  ·rw [VJ _ _ (by omega)]
   intro e
   have : hasN c.ns n.mi = true := VQ.2 ⟨_, CT (show i < c.ns.length by omega), e⟩
   rw [h.no] at this; cases this
theorem CGE {c : Cht} {n : Nt} (h : NtMore c n) {sp : Nat -> Bool} {u : Nat -> Int} : TrC (EO c n) sp u ↔ TrC c sp u /\ n.t.has (u n.mi.toNat) := by
 have mi := h.nt.mi
 constructor
 ·intro hu
  refine ⟨⟨λ i hi => ?_, hu.gap⟩, ?_⟩
  ·have q := hu.at_ i hi
   have q : (KE (EO c n) (i : Int)).has (u i) := q
   rw [show KE (EO c n) (i : Int) = _ from AOE h.no (i : Int)] at q
   by_cases e : (i : Int) = n.mi
   ·rw [decide_eq_true e] at q
    have q : n.t.has (u i) := q
    show (KE c (i : Int)).has (u i)
    rw [(CMK h.ok (i : Int)).2 (by rw [e]; exact h.no)]
    have t := h.nt.t
    unfold Span.has at q ⊢
    show -100000000 <= u i /\ u i <= 100000000
    omega
   ·rw [decide_eq_false e] at q; exact q
  ·have hm := h.ok.m
   have q := hu.at_ n.mi.toNat (by show n.mi.toNat <= c.ms.length - 1; omega)
   have q : (KE (EO c n) (n.mi.toNat : Int)).has (u n.mi.toNat) := q
   rw [show KE (EO c n) (n.mi.toNat : Int) = _ from AOE h.no _, decide_eq_true (show ((n.mi.toNat : Nat) : Int) = n.mi by omega)] at q
   exact q
 ·rintro ⟨hu, hn⟩
  refine ⟨λ i hi => ?_, hu.gap⟩
  show (KE (EO c n) (i : Int)).has (u i)
  rw [show KE (EO c n) (i : Int) = _ from AOE h.no (i : Int)]
  by_cases e : (i : Int) = n.mi
  ·rw [decide_eq_true e]
   show n.t.has (u i)
   rw [show i = n.mi.toNat by omega]; exact hn
  ·rw [decide_eq_false e]; exact hu.at_ i hi
theorem DBY {c : Cht} {n : Nt} (h : NtMore c n) {i : Nat} (hi : i < c.ms.length) : (gD (BA c) i).lo <= (gD (BA (EO c n)) i).lo /\ (gD (BA (EO c n)) i).hi <= (gD (BA c) i).hi := by
 rw [BGE hi, BGE (c := EO c n) hi, show HD (EO c n) (i : Int) = _ from CCO h.no (i : Int)]
 cases decide ((i : Int) = n.mi) with
 | true => exact ⟨DDP _ _, DDJ _ _⟩
 | false => exact ⟨Int.le_refl _, Int.le_refl _⟩
theorem DEO {c : Cht} {n : Nt} (h : NtMore c n) {i : Nat} (hi : i < c.ms.length) {v : Int} (hv : (HD c (i : Int)).has v) (hn : (i : Int) = n.mi -> n.s.has v) : (HD (EO c n) (i : Int)).has v := by
 rw [show HD (EO c n) (i : Int) = _ from CCO h.no (i : Int)]
 by_cases e : (i : Int) = n.mi
 ·rw [decide_eq_true e]; exact ME.2 ⟨hv, hn e⟩
 ·rw [decide_eq_false e]; exact hv
def rY (c : Cht) (p : Span) : Cht := ⟨p, c.base, c.scale, c.off, c.ms, c.ns⟩
theorem DHJ {c : Cht} (h : ChOk c) {p : Span} (hp : 1 <= p.lo /\ p.lo <= c.p.lo /\ c.p.hi <= p.hi /\ p.hi <= 600) : ChOk (rY c p) := by
 have q := h.p
 exact ⟨h.m, h.n, by show 1 <= p.lo /\ p.lo <= p.hi /\ p.hi <= 600; omega, h.b, h.sc, h.of, h.mks, h.up, h.nt, h.one⟩
theorem CDV {c : Cht} (h : ChOk c) {p : Span} (hp : 1 <= p.lo /\ p.lo <= c.p.lo /\ c.p.hi <= p.hi /\ p.hi <= 600) {sp : Nat -> Bool} {u : Nat -> Int} (hu : TrC c sp u) : TrC (rY c p) sp u := by
 refine ⟨hu.at_, λ g hg => ?_⟩
 have hg : g < c.ms.length - 1 := hg
 have f := h.far (g := g) (by omega)
 have q := hu.gap g hg
 have m1 : p.lo * HY c g <= c.p.lo * HY c g := Int.mul_le_mul_of_nonneg_right hp.2.1 (by omega)
 have m2 : c.p.hi * HY c g <= p.hi * HY c g := Int.mul_le_mul_of_nonneg_right hp.2.2.1 (by omega)
 have q1 : c.p.lo * HY c g <= u (g + 1) - u g := q.1
 have q2 : u (g + 1) - u g <= bif sp g then 200000000 else c.p.hi * HY c g := q.2
 refine ⟨by show p.lo * HY c g <= u (g + 1) - u g; omega, ?_⟩
 show u (g + 1) - u g <= bif sp g then 200000000 else p.hi * HY c g
 cases hs : sp g with
 | true => rw [hs] at q2; exact q2
 | false => rw [hs] at q2; exact Int.le_trans q2 m2
theorem COS {c : Cht} (h : ChOk c) {sp sq : Nat -> Bool} (hs : ∀ g, sp g = true -> sq g = true) {u : Nat -> Int} (hu : TrC c sp u) : TrC c sq u := by
 have hm := h.m
 refine ⟨hu.at_, λ g hg => ?_⟩
 have q := hu.gap g hg
 refine ⟨q.1, ?_⟩
 have q2 : u (g + 1) - u g <= bif sp g then 200000000 else c.p.hi * HY c g := q.2
 show u (g + 1) - u g <= bif sq g then 200000000 else c.p.hi * HY c g
 have b1 := hu.bd h (i := g) (by omega)
 have b2 := hu.bd h (i := g + 1) (by omega)
 cases hq : sq g with
 | true => show _ <= (200000000 : Int); omega
 | false =>
  cases hp : sp g with
  | true => rw [hs g hp] at hq; cases hq
  | false => rw [hp] at q2; exact q2
structure SgI (z : List Int) (k : Nat) (x : SgS) : Prop where
 nx : x.nx <= z.length
 lt : ∀ i, i < x.nx -> gD z i < k
 ge : ∀ i, x.nx <= i -> i < z.length -> (k : Int) <= gD z i
 q : ∀ g ∈ x.q, 0 <= g /\ g < k
 up : x.q.Pairwise (· < ·)
 all : ∀ g ∈ z, g < k -> g ∈ x.q
theorem DKX {z : List Int} (h : z.Pairwise (· < ·)) {i j : Nat} (hij : i < j) (hj : j < z.length) : gD z i < gD z j := by
 rw [List.pairwise_iff_getElem] at h
 have := h i j (by omega) hj hij
 unfold gD
 rw [List.getD_eq_getElem?_getD, List.getD_eq_getElem?_getD, List.getElem?_eq_getElem (by omega), List.getElem?_eq_getElem hj]
 exact this
theorem DIR {q : List Int} {k : Nat} (h1 : ∀ g ∈ q, 0 <= g /\ g < k) (h2 : q.Pairwise (· < ·)) : (∀ g ∈ q ++ [(k : Int)], 0 <= g /\ g < ((k + 1 : Nat) : Int)) /\ (q ++ [(k : Int)]).Pairwise (· < ·) := by
 refine ⟨λ g hg => ?_, ?_⟩
 ·rcases List.mem_append.1 hg with hg | hg
  ·have := h1 g hg; omega
  ·have := List.mem_singleton.1 hg; omega
 ·rw [List.pairwise_append]
  refine ⟨h2, List.pairwise_singleton _ _, λ g hg x hx => ?_⟩
  have := h1 g hg
  have := List.mem_singleton.1 hx
  omega
theorem DET {z : List Int} (hz : z.Pairwise (· < ·)) (h0 : ∀ g ∈ z, 0 <= g) (s : Stm) : ∀ k, SgI z k (sgK z s k)
 | 0 => ⟨Nat.zero_le _, λ i h => absurd h (Nat.not_lt_zero _), λ i _ hi => by have := h0 _ (CT hi); omega, λ g h => (by cases h), .nil, λ g hg h => by have := h0 g hg; omega⟩
 | k + 1 => by
  have I := DET hz h0 s k
  show SgI z (k + 1) (OZ z k (sgK z s k))
  generalize sgK z s k = x at *
  unfold OZ
  obtain ⟨s1, s2⟩ := DIR I.q I.up
  have isT : Ir z k x = true ↔ x.nx < z.length /\ gD z x.nx = (k : Int) := by
   unfold Ir
   by_cases q : (x.nx : Int) < z.length
   ·rw [decide_eq_true q]
    show (gD z x.nx == (k : Int)) = true ↔ _
    rw [beq_iff_eq]
    exact ⟨λ h => ⟨by omega, h⟩, λ h => h.2⟩
   ·rw [decide_eq_false q]
    exact ⟨λ h => (by cases h), λ h => by omega⟩
  cases hi : Ir z k x with
  | true =>
   obtain ⟨a1, a2⟩ := isT.1 hi
   refine ⟨by show x.nx + 1 <= z.length; omega, λ i h => ?_, λ i h1 h2 => ?_, s1, s2, λ g hg h => ?_⟩
   ·have h : i < x.nx + 1 := h
    rcases Nat.lt_or_ge i x.nx with r | r
    ·have := I.lt i r; omega
    ·obtain rfl : i = x.nx := by omega
     omega
   ·have h1 : x.nx + 1 <= i := h1
    have := DKX hz (show x.nx < i by omega) h2
    omega
   ·rcases Int.lt_or_le g k with r | r
    ·exact List.mem_append_left _ (I.all g hg r)
    ·exact List.mem_append_right _ (List.mem_singleton.2 (by omega))
  | false =>
   have no : ∀ g ∈ z, g ≠ (k : Int) := λ g hg e => by
    obtain ⟨i, i1, i2⟩ := KQ hg
    have ge : x.nx <= i := Nat.le_of_not_lt λ r => by have := I.lt i r; omega
    have : ¬ x.nx < i := λ r => by
     have := DKX hz r i1
     have := I.ge x.nx (Nat.le_refl _) (by omega)
     omega
    obtain rfl : i = x.nx := by omega
    rw [isT.2 ⟨i1, by rw [i2]; exact e⟩] at hi; cases hi
   refine ⟨I.nx, λ i h => by have := I.lt i h; omega, λ i h1 h2 => ?_, ?_, ?_, λ g hg h => ?_⟩
   ·have a := I.ge i h1 h2
    have b := no _ (CT h2)
    omega
   ·show ∀ g ∈ (bif AL x.s 4 == 0 then x.q ++ [(k : Int)] else x.q), 0 <= g /\ g < ((k + 1 : Nat) : Int)
    cases AL x.s 4 == 0 with
    | true => exact s1
    | false => exact λ g hg => by have := I.q g hg; omega
   ·show (bif AL x.s 4 == 0 then x.q ++ [(k : Int)] else x.q).Pairwise (· < ·)
    cases AL x.s 4 == 0 with
    | true => exact s2
    | false => exact I.up
   ·have := no g hg
    have m := I.all g hg (by omega)
    show g ∈ (bif AL x.s 4 == 0 then x.q ++ [(k : Int)] else x.q)
    cases AL x.s 4 == 0 with
    | true => exact List.mem_append_left _ m
    | false => exact m
theorem CUK {z : List Int} {K : Int} {s : Stm} (h : StmB K s) (hK : K <= 1000) : ∀ k : Nat, k <= 100 -> StmB (K + k) (sgK z s k).s
 | 0, _ => h.mono (by omega)
 | k + 1, hk => by
  have ih := CUK (z := z) h hK k (by omega)
  show StmB _ (OZ z k (sgK z s k)).s
  unfold OZ
  cases Ir z k (sgK z s k) with
  | true => exact ih.mono (by omega)
  | false => exact (ih.next (by omega) 4).mono (by omega)
end Go.Bal
