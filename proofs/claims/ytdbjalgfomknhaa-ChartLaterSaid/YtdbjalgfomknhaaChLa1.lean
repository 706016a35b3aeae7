/- Law ChartLater: what is asked is so. -/
import Derived.Test.YtdbjalgfomknhaaChLa
import Derived.Test.YtdbjalgfomknhaaChT11
set_option linter.unusedVariables false
set_option linter.unusedSimpArgs false
namespace Go.Bal
open Go Go.Sym Go.Proofs
def inN (n : Nt) : Prop := (0 <= n.t.lo /\ n.t.lo <= n.t.hi /\ n.t.hi <= 100000) /\ -10000 <= n.s.lo /\ n.s.lo <= n.s.hi /\ n.s.hi <= 10000
theorem AXD {on up : Int} (h1 : 0 <= on /\ on <= 100000) (h2 : 0 <= up /\ up <= 1000) {n : Nt} (hn : inN n) : G4 on up n = ⟨n.mi, uN on n.t, uN up n.s⟩ := by
 obtain ⟨⟨a1, a2, a3⟩, b1, b2, b3⟩ := hn
 have e1 : wr (n.t.lo + on) = n.t.lo + on := CP (by omega) (by omega)
 have e2 : wr (n.t.hi + on) = n.t.hi + on := CP (by omega) (by omega)
 have e3 : wr (n.s.lo + up) = n.s.lo + up := CP (by omega) (by omega)
 have e4 : wr (n.s.hi + up) = n.s.hi + up := CP (by omega) (by omega)
 unfold G4 uN
 rw [e1, e2, e3, e4]
theorem zW (on up : Int) (l : List Nt) (j : Int) : hasN (l.map (G4 on up)) j = hasN l j := by
 unfold hasN; rw [List.any_map]; rfl
theorem BBO (on up : Int) : ∀ (l : List Nt) (j : Int), hasN l j = true -> ntOf (l.map (G4 on up)) j = G4 on up (ntOf l j)
 | [], j, h => by simp [hasN] at h
 | n :: r, j, h => by
  show (bif hasN (r.map (G4 on up)) j then ntOf (r.map (G4 on up)) j else bif n.mi == j then G4 on up n else default) = G4 on up (bif hasN r j then ntOf r j else bif n.mi == j then n else default)
  rw [zW]
  cases hr : hasN r j with
  | true => exact BBO on up r j hr
  | false =>
   have h2 : (n.mi == j || hasN r j) = true := h
   rw [hr, Bool.or_false] at h2
   rw [h2]; rfl
theorem APA (on up : Int) (l : List Nt) {i : Nat} (hi : i < l.length) : gD (l.map (G4 on up)) i = G4 on up (gD l i) := AYA _ hi
theorem CAA (on up : Int) (l : List Nt) (i : Nat) : (gD (l.map (G4 on up)) i).mi = (gD l i).mi := by
 by_cases hi : i < l.length
 ·rw [APA on up l hi]; rfl
 ·have e1 : gD l i = default := by unfold gD; rw [List.getD_eq_getElem?_getD, List.getElem?_eq_none (by omega)]; rfl
  have e2 : gD (l.map (G4 on up)) i = default := by unfold gD; rw [List.getD_eq_getElem?_getD, List.getElem?_eq_none (by simp; omega)]; rfl
  rw [e1, e2]
theorem CUB {d : Int} (a b : Span) : Ka (uN d a) (uN d b) = uN d (Ka a b) := by
 unfold Ka uN AY DX
 congr 1 <;> (simp only; split <;> split <;> omega)
structure LaG (c : Cht) (on up : Int) : Prop where
 ok : ChOk c
 nt : ∀ n ∈ c.ns, inN n
 ne : 0 < c.ns.length
 bd : (-50 <= c.base /\ c.base <= 400) /\ (0 <= c.scale /\ c.scale <= 11) /\ (0 <= c.off /\ c.off <= 8) /\ c.p.hi <= 17
 onb : 0 <= on /\ on <= 100000
 upb : 0 <= up /\ up <= 1000
def YU (c : Cht) (on up : Int) : Cht := ⟨c.p, wr (c.base + up), c.scale, c.off, c.ms, c.ns.map (G4 on up)⟩
theorem LaG.base {c : Cht} {on up : Int} (h : LaG c on up) : wr (c.base + up) = c.base + up := CP (by have := h.bd.1; have := h.upb; omega) (by have := h.bd.1; have := h.upb; omega)
theorem LaG.ho {c : Cht} {on up : Int} (h : LaG c on up) : ChOk (YU c on up) := by
 have hc := h.ok
 have onb := h.onb
 have upb := h.upb
 refine ⟨hc.m, by show (c.ns.map _).length <= 20; rw [List.length_map]; exact hc.n, hc.p, by show -1000000 <= wr (c.base + up) /\ wr (c.base + up) <= 1000000; rw [h.base]; have := h.bd.1; omega, hc.sc, hc.of, hc.mks, hc.up, λ n hn => ?_, λ i j hij hj => ?_⟩
 ·obtain ⟨m, hm, rfl⟩ := List.mem_map.1 hn
  have q := hc.nt m hm
  have b := h.nt m hm
  rw [AXD onb upb b]
  obtain ⟨⟨a1, a2, a3⟩, b1, b2, b3⟩ := b
  refine ⟨q.mi, ?_, ?_⟩
  ·show 0 <= m.t.lo + on /\ m.t.lo + on <= m.t.hi + on /\ m.t.hi + on <= 10000000; omega
  ·show -3000000 <= m.s.lo + up /\ m.s.lo + up <= m.s.hi + up /\ m.s.hi + up <= 3000000; omega
 ·have hj : j < (c.ns.map (G4 on up)).length := hj
  rw [List.length_map] at hj
  show (gD (c.ns.map (G4 on up)) i).mi ≠ (gD (c.ns.map (G4 on up)) j).mi
  rw [CAA, CAA]
  exact hc.one i j hij hj
theorem LaG.stg {c : Cht} {on up : Int} (h : LaG c on up) {i : Nat} (hi : i < c.ms.length) : FU (YU c on up) i = uN up (FU c i) := by
 obtain ⟨b1, b2, b3, _⟩ := h.bd
 have upb := h.upb
 have ht := (h.ok.mks i hi).2
 have m := mulb (a := c.scale) (b := (gD c.ms i).ht) (A := 11) (B := 1000) b2.1 b2.2 ht.1 ht.2
 have e1 : wr (c.scale * (gD c.ms i).ht) = c.scale * (gD c.ms i).ht := CP (by omega) (by omega)
 have e2 : atM c (i : Int) = c.base + c.scale * (gD c.ms i).ht := by
  show wr (c.base + wr (c.scale * (gD c.ms i).ht)) = _
  rw [e1]; exact CP (by omega) (by omega)
 have e3 : atM (YU c on up) (i : Int) = c.base + up + c.scale * (gD c.ms i).ht := by
  show wr (wr (c.base + up) + wr (c.scale * (gD c.ms i).ht)) = _
  rw [e1, h.base]; exact CP (by omega) (by omega)
 have e4 : st0 (YU c on up) (i : Int) = uN up (st0 c (i : Int)) := by
  have q1 : wr (c.base + up + c.scale * (gD c.ms i).ht - c.off) = c.base + up + c.scale * (gD c.ms i).ht - c.off := CP (by omega) (by omega)
  have q2 : wr (c.base + up + c.scale * (gD c.ms i).ht + c.off) = c.base + up + c.scale * (gD c.ms i).ht + c.off := CP (by omega) (by omega)
  have q3 : wr (c.base + c.scale * (gD c.ms i).ht - c.off) = c.base + c.scale * (gD c.ms i).ht - c.off := CP (by omega) (by omega)
  have q4 : wr (c.base + c.scale * (gD c.ms i).ht + c.off) = c.base + c.scale * (gD c.ms i).ht + c.off := CP (by omega) (by omega)
  unfold st0
  rw [e2, e3]
  show Span.mk (wr (c.base + up + c.scale * (gD c.ms i).ht - c.off)) (wr (c.base + up + c.scale * (gD c.ms i).ht + c.off)) = Span.mk (wr (c.base + c.scale * (gD c.ms i).ht - c.off) + up) (wr (c.base + c.scale * (gD c.ms i).ht + c.off) + up)
  rw [q1, q2, q3, q4]
  congr 1 <;> omega
 unfold FU
 show (bif hasN (c.ns.map (G4 on up)) (i : Int) then Ka (st0 (YU c on up) (i : Int)) (ntOf (c.ns.map (G4 on up)) (i : Int)).s else st0 (YU c on up) (i : Int)) = _
 rw [zW, e4]
 cases hh : hasN c.ns (i : Int) with
 | false => rfl
 | true =>
  rw [BBO on up c.ns _ hh, AXD h.onb upb (h.nt _ (SD hh).1)]
  exact CUB _ _
theorem LaG.laH {c : Cht} {on up : Int} (h : LaG c on up) : LaH c (YU c on up) on up := by
 refine ⟨h.ok, h.ho, rfl, rfl, λ i hi => h.stg hi, λ j => zW on up c.ns j, λ j hj => ?_, ?_, h.bd.2.2.2, h.onb⟩
 ·unfold IN
  show (bif hasN (c.ns.map (G4 on up)) j then (ntOf (c.ns.map (G4 on up)) j).t else farS) = uN on (bif hasN c.ns j then (ntOf c.ns j).t else farS)
  rw [zW, hj, BBO on up c.ns j hj, AXD h.onb h.upb (h.nt _ (SD hj).1)]; rfl
 ·have hm : gD c.ns 0 ∈ c.ns := CS h.ne
  have mi := (h.ok.nt _ hm).mi
  have b := h.nt _ hm
  have e : ((gD c.ns 0).mi.toNat : Int) = (gD c.ns 0).mi := by omega
  have hh : hasN c.ns ((gD c.ns 0).mi.toNat : Int) = true := Ad.2 ⟨_, hm, e.symm⟩
  refine ⟨(gD c.ns 0).mi.toNat, by omega, hh, ?_⟩
  have en : IN c ((gD c.ns 0).mi.toNat : Int) = (gD c.ns 0).t := by
   unfold IN; rw [hh, e, h.ok.ntOf hm]; rfl
  rw [en]
  exact ⟨b.1.1, b.1.2.2⟩
theorem LaG.same {c : Cht} {on up : Int} (h : LaG c on up) : SameL c (YU c on up) := by
 refine ⟨by show (c.ns.map _).length = _; rw [List.length_map], λ i => CAA on up c.ns i, λ a b ha hb => ?_⟩
 have qa := h.nt _ (CS ha)
 have qb := h.nt _ (CS hb)
 have ea : nA (YU c on up) ⟨a, b⟩ = G4 on up (gD c.ns a) := APA on up c.ns ha
 have eb : nB (YU c on up) ⟨a, b⟩ = G4 on up (gD c.ns b) := APA on up c.ns hb
 have ea2 : nA c ⟨a, b⟩ = gD c.ns a := rfl
 have eb2 : nB c ⟨a, b⟩ = gD c.ns b := rfl
 unfold KT
 rw [ea, eb, ea2, eb2, AXD h.onb h.upb qa, AXD h.onb h.upb qb]
 show decide (wr ((gD c.ns b).t.lo + on - ((gD c.ns a).t.hi + on)) > _) = _
 rw [show (gD c.ns b).t.lo + on - ((gD c.ns a).t.hi + on) = (gD c.ns b).t.lo - (gD c.ns a).t.hi by omega]
 rfl
structure LaK (c : Cht) (on up : Int) : Prop where
 t2 : (IT ⟨c, nilI⟩).2 = (IT ⟨YU c on up, nilI⟩).2
 tl : (IT ⟨YU c on up, nilI⟩).1.length = (IT ⟨c, nilI⟩).1.length
 tb : (IT ⟨c, nilI⟩).1.length <= 40
 ti : ∀ i, i < (IT ⟨c, nilI⟩).1.length -> (gD (IT ⟨YU c on up, nilI⟩).1 i).lo = IntKind.i64.wrap ((gD (IT ⟨c, nilI⟩).1 i).lo + on) /\ (gD (IT ⟨YU c on up, nilI⟩).1 i).hi = IntKind.i64.wrap ((gD (IT ⟨c, nilI⟩).1 i).hi + on)
 st : ∀ t, (BD ⟨⟨c, nilI⟩, t⟩).2 = (BD ⟨⟨YU c on up, nilI⟩, t + on⟩).2 /\ ((BD ⟨⟨c, nilI⟩, t⟩).2 = 0 -> (BD ⟨⟨YU c on up, nilI⟩, t + on⟩).1.lo = IntKind.i64.wrap ((BD ⟨⟨c, nilI⟩, t⟩).1.lo + up) /\ (BD ⟨⟨YU c on up, nilI⟩, t + on⟩).1.hi = IntKind.i64.wrap ((BD ⟨⟨c, nilI⟩, t⟩).1.hi + up))
 pk : ∀ f t, f <= t -> (CQ ⟨⟨c, nilI⟩, f, t⟩).2 = (CQ ⟨⟨YU c on up, nilI⟩, f + on, t + on⟩).2 /\ ((CQ ⟨⟨c, nilI⟩, f, t⟩).2 = 0 -> (CQ ⟨⟨YU c on up, nilI⟩, f + on, t + on⟩).1.lo = IntKind.i64.wrap ((CQ ⟨⟨c, nilI⟩, f, t⟩).1.lo + up) /\ (CQ ⟨⟨YU c on up, nilI⟩, f + on, t + on⟩).1.hi = IntKind.i64.wrap ((CQ ⟨⟨c, nilI⟩, f, t⟩).1.hi + up))
theorem uH {c : Cht} (h : ChOk c) (hs : stgOk c = true) {i : Nat} (hi : i < c.ms.length) : YM 3000000 (gD (stgL c) i) := by
 have hle := CTQ hs hi
 rw [Zj hi] at hle ⊢
 have b := h.b
 have sc := h.sc
 have o := h.of
 have ht := (h.mks i hi).2
 have m := mulb (a := c.scale) (b := (gD c.ms i).ht) (A := 1000) (B := 1000) sc.1 sc.2 ht.1 ht.2
 have e1 : wr (c.scale * (gD c.ms i).ht) = c.scale * (gD c.ms i).ht := CP (by omega) (by omega)
 have e2 : atM c (i : Int) = c.base + c.scale * (gD c.ms i).ht := by
  show wr (c.base + wr (c.scale * (gD c.ms i).ht)) = _
  rw [e1]; exact CP (by omega) (by omega)
 have e3 : (st0 c (i : Int)).lo = c.base + c.scale * (gD c.ms i).ht - c.off := by
  show wr (atM c (i : Int) - c.off) = _
  rw [e2]; exact CP (by omega) (by omega)
 have e4 : (st0 c (i : Int)).hi = c.base + c.scale * (gD c.ms i).ht + c.off := by
  show wr (atM c (i : Int) + c.off) = _
  rw [e2]; exact CP (by omega) (by omega)
 have q : (st0 c (i : Int)).lo <= (FU c (i : Int)).lo /\ (FU c (i : Int)).hi <= (st0 c (i : Int)).hi := by
  unfold FU
  cases hasN c.ns (i : Int) with
  | false => exact ⟨Int.le_refl _, Int.le_refl _⟩
  | true => exact ⟨CIY _ _, CJL _ _⟩
 unfold YM; omega
theorem CDC {h : Hul} {S : Span -> Prop} {B : Int} (hs : HulIs h S) (hb : ∀ s, S s -> YM B s) (h0 : (DS h).2 = 0) : YM B (DS h).1 := by
 rcases hs.who with ⟨_, _, e, hm⟩ | ⟨_, e⟩
 ·obtain ⟨⟨a, a1, a2⟩, b, b1, b2⟩ := hs.1 hm
  have p := hb a a1
  have q := hb b b1
  rw [e]
  unfold YM at *
  omega
 ·rw [e] at h0; cases h0
theorem CIL {B d : Int} {s : Span} (hb : YM B s) (hB : B <= 1000000000) (hd : 0 <= d /\ d <= 100000) : IntKind.i64.wrap (s.lo + d) = (uN d s).lo /\ IntKind.i64.wrap (s.hi + d) = (uN d s).hi := by
 unfold YM at hb
 exact ⟨CP (by omega) (by omega), CP (by omega) (by omega)⟩
theorem LaG.laK {c : Cht} {on up : Int} (h : LaG c on up) : LaK c on up := by
 have H := h.laH
 have onb := h.onb
 have upb := h.upb
 have e1 : ∀ d, IT ⟨d, nilI⟩ = bif AM ⟨d, nilI⟩ == 0 then (CB ⟨d, nilI⟩, 0) else ([], AM ⟨d, nilI⟩) := λ _ => rfl
 by_cases hr : AM ⟨c, nilI⟩ = 0
 ·have ro : AM ⟨YU c on up, nilI⟩ = 0 := H.read.trans hr
  have l1 := Fx (a := ⟨c, nilI⟩) hr
  have l2 := Fx (a := ⟨YU c on up, nilI⟩) ro
  have l1 : (CB ⟨c, nilI⟩).length = c.ms.length := l1
  have l2 : (CB ⟨YU c on up, nilI⟩).length = c.ms.length := l2
  have hs := ((Cw (w := AH ⟨c, nilI⟩) h.ok).1 (XD hr).2.2).1
  have hs : stgOk c = true := hs
  have t1 : IT ⟨c, nilI⟩ = (CB ⟨c, nilI⟩, 0) := by rw [e1, hr]; rfl
  have t2 : IT ⟨YU c on up, nilI⟩ = (CB ⟨YU c on up, nilI⟩, 0) := by rw [e1, ro]; rfl
  have m40 := h.ok.m
  refine ⟨by rw [t1, t2], by rw [t1, t2]; show (CB ⟨YU c on up, nilI⟩).length = (CB ⟨c, nilI⟩).length; omega, by rw [t1]; show (CB ⟨c, nilI⟩).length <= 40; omega, λ i hi => ?_, λ t => ?_, λ f t hft => ?_⟩
  ·rw [t1] at hi
   have hi : i < (CB ⟨c, nilI⟩).length := hi
   rw [t1, t2]
   show (gD (CB ⟨YU c on up, nilI⟩) i).lo = IntKind.i64.wrap ((gD (CB ⟨c, nilI⟩) i).lo + on) /\ (gD (CB ⟨YU c on up, nilI⟩) i).hi = IntKind.i64.wrap ((gD (CB ⟨c, nilI⟩) i).hi + on)
   have w := CIL (CLL (a := ⟨c, nilI⟩) h.ok hr (show i < c.ms.length by omega)) (by decide) onb
   rw [H.times hr (by omega), w.1, w.2]; exact ⟨rfl, rfl⟩
  ·obtain ⟨p1, p2⟩ := H.stage t
   refine ⟨p1, λ h0 => ?_⟩
   have ec : BD ⟨⟨c, nilI⟩, t⟩ = DS (Dd ⟨⟨c, nilI⟩, t⟩) := by unfold BD; rw [show AM (CZI.mk ⟨c, nilI⟩ t).a = 0 from hr]; rfl
   have b : YM 3000000 (BD ⟨⟨c, nilI⟩, t⟩).1 := by
    rw [ec] at h0 ⊢
    refine CDC (BDC (a := ⟨c, nilI⟩) h.ok hr t) (λ s hs2 => ?_) h0
    rcases hs2 with ⟨u, u1, ⟨i, i1, i2, rfl⟩ | ⟨g, g1, _, rfl | rfl⟩⟩
    ·exact uH h.ok hs i1
    ·exact uH h.ok hs (Nat.lt_of_succ_lt g1)
    ·exact uH h.ok hs g1
   have w := CIL b (by decide) (d := up) (by omega)
   rw [p2 h0, w.1, w.2]; exact ⟨rfl, rfl⟩
  ·obtain ⟨p1, p2⟩ := H.peak hft
   refine ⟨p1, λ h0 => ?_⟩
   have ec : CQ ⟨⟨c, nilI⟩, f, t⟩ = DS (Jx ⟨⟨c, nilI⟩, f, t⟩ c.ms.length) := by
    unfold CQ PF
    rw [show AM (CZ2.mk ⟨c, nilI⟩ f t).a = 0 from hr, decide_eq_false (show ¬ (CZ2.mk ⟨c, nilI⟩ f t).t < (CZ2.mk ⟨c, nilI⟩ f t).f by show ¬ t < f; omega)]; rfl
   have b : YM 3000000 (CQ ⟨⟨c, nilI⟩, f, t⟩).1 := by
    rw [ec] at h0 ⊢
    refine CDC (BOW (x := ⟨⟨c, nilI⟩, f, t⟩) h.ok hr hft) (λ s hs2 => ?_) h0
    obtain ⟨u, u1, i, j, i1, i2, i3, rfl⟩ := hs2
    have i2 : j < c.ms.length := i2
    obtain ⟨_, k, k1, k2⟩ := CVY (l := IR ⟨⟨c, nilI⟩, f, t⟩ i j) (by rw [Jj]; omega)
    obtain ⟨_, m, m1, m2⟩ := CVH (l := IR ⟨⟨c, nilI⟩, f, t⟩ i j) (by rw [Jj]; omega)
    rw [Jj] at k1 m1
    rw [BQV _ k1] at k2
    rw [BQV _ m1] at m2
    have q1 := uH h.ok hs (show i + k < c.ms.length by omega)
    have q2 := uH h.ok hs (show i + m < c.ms.length by omega)
    have k2 : gLo (IR ⟨⟨c, nilI⟩, f, t⟩ i j) = (gD (stgL c) (i + k)).lo := k2
    have m2 : gHi (IR ⟨⟨c, nilI⟩, f, t⟩ i j) = (gD (stgL c) (i + m)).hi := m2
    unfold YM at q1 q2 ⊢
    refine ⟨⟨?_, ?_⟩, ?_, ?_⟩
    ·show _ <= gLo (IR ⟨⟨c, nilI⟩, f, t⟩ i j); rw [k2]; exact q1.1.1
    ·show gLo (IR ⟨⟨c, nilI⟩, f, t⟩ i j) <= _; rw [k2]; exact q1.1.2
    ·show _ <= gHi (IR ⟨⟨c, nilI⟩, f, t⟩ i j); rw [m2]; exact q2.2.1
    ·show gHi (IR ⟨⟨c, nilI⟩, f, t⟩ i j) <= _; rw [m2]; exact q2.2.2
   have w := CIL b (by decide) (d := up) (by omega)
   rw [p2 h0, w.1, w.2]; exact ⟨rfl, rfl⟩
 ·have b1 : (AM ⟨c, nilI⟩ == 0) = false := by simpa using hr
  have b2 : (AM ⟨YU c on up, nilI⟩ == 0) = false := by rw [H.read]; exact b1
  have t1 : IT ⟨c, nilI⟩ = ([], AM ⟨c, nilI⟩) := by rw [e1, b1]; rfl
  have t2 : IT ⟨YU c on up, nilI⟩ = ([], AM ⟨YU c on up, nilI⟩) := by rw [e1, b2]; rfl
  have sc : ∀ t, BD ⟨⟨c, nilI⟩, t⟩ = (⟨0, 0⟩, AM ⟨c, nilI⟩) := λ t => by unfold BD; rw [b1]; rfl
  have pc : ∀ f t, CQ ⟨⟨c, nilI⟩, f, t⟩ = (⟨0, 0⟩, AM ⟨c, nilI⟩) := λ f t => by unfold CQ; rw [b1]; rfl
  refine ⟨by rw [t1, t2]; exact H.read.symm, by rw [t1, t2], by rw [t1]; exact Nat.zero_le _, λ i hi => by rw [t1] at hi; exact absurd hi (Nat.not_lt_zero _), λ t => ⟨(H.stage t).1, λ h0 => ?_⟩, λ f t hft => ⟨(H.peak hft).1, λ h0 => ?_⟩⟩
  ·rw [sc] at h0; exact absurd h0 hr
  ·rw [pc] at h0; exact absurd h0 hr
end Go.Bal
