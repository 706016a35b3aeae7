/- Law ChartFewest: charts of which some notes are late (no program in sight). -/
import Derived.Test.YtdbjalgfomknhaaChT8
import Derived.Test.YtdbjalgfomknhaaChWO1
set_option linter.unusedVariables false
set_option linter.unusedSimpArgs false
namespace Go.Bal
open Go Go.Sym Go.Proofs
structure FeI where
 bs : List Int
 cs : List Int
def feM (x : FeI) : MkI := ⟨⟨x.bs, 0, 0⟩, 12, true⟩
def RD (x : FeI) : Cht := RK (feM x)
def feS0 (x : FeI) : Stm := ⟨x.cs, 0, 0⟩
structure FeY where
 s : Stm
 l : List Nt
 deriving Inhabited
def setN (l : List Nt) (k : Nat) (n : Nt) : List Nt := HX l.length λ i => bif decide (i = k) then n else gD l i
def feLo (k : Nat) (y : FeY) : Int := wr ((gD y.l k).t.lo + AV (AS y.s 4) 300)
def feHi (k : Nat) (y : FeY) : Int := wr (feLo k y + AV (AS (AS y.s 4) 300) 50)
def feG (k : Nat) (y : FeY) : FeY := ⟨AS (AS (AS y.s 4) 300) 50, setN y.l k ⟨(gD y.l k).mi, ⟨feLo k y, feHi k y⟩, (gD y.l k).s⟩⟩
def AVD (k : Nat) (y : FeY) : FeY := bif AV y.s 4 == 0 then feG k y else ⟨AS y.s 4, y.l⟩
def feKc (s0 : Stm) (ns : List Nt) : Nat -> FeY
 | 0 => ⟨s0, ns⟩
 | k + 1 => AVD k (feKc s0 ns k)
def feK (x : FeI) (k : Nat) : FeY := feKc (feS0 x) (RD x).ns k
def feY (x : FeI) : FeY := feK x (RD x).ns.length
def OV (x : FeI) : Cht := ⟨(RD x).p, (RD x).base, (RD x).scale, (RD x).off, (RD x).ms, (feY x).l⟩
theorem BUM (l : List Nt) (k : Nat) (n : Nt) : (setN l k n).length = l.length := rng_length _ _
theorem BGC {l : List Nt} {k i : Nat} {n : Nt} (h : i < l.length) : gD (setN l k n) i = bif decide (i = k) then n else gD l i := EK _ _ _ h
structure FeF (ns : List Nt) (k : Nat) (y : FeY) : Prop where
 len : y.l.length = ns.length
 st : StmB (3 * (k : Int)) y.s
 mi : ∀ i, i < ns.length -> (gD y.l i).mi = (gD ns i).mi /\ (gD y.l i).s = (gD ns i).s
 t : ∀ i, i < ns.length -> 0 <= (gD y.l i).t.lo /\ (gD y.l i).t.lo <= (gD y.l i).t.hi /\ (gD y.l i).t.hi <= 101000 /\ (k <= i -> (gD y.l i).t.hi <= 100000)
theorem CAR {s0 : Stm} {ns : List Nt} (h0 : ∀ n ∈ ns, 0 <= n.t.lo /\ n.t.lo <= n.t.hi /\ n.t.hi <= 100000) (hs : StmB 0 s0) : ∀ k, k <= ns.length -> ns.length <= 12 -> FeF ns k (feKc s0 ns k)
 | 0, _, _ => ⟨rfl, hs, λ _ _ => ⟨rfl, rfl⟩, λ i hi => by
  obtain ⟨j3, j4, j6⟩ := h0 (gD ns i) (HP hi)
  exact ⟨j3, j4, Int.le_trans j6 (by decide), λ _ => j6⟩⟩
 | k + 1, hk, h12 => by
  have ih := CAR h0 hs k (by omega) h12
  have s1 := ih.st.next (by omega) 4
  have s2 := s1.next (by omega) 300
  have s3 := s2.next (by omega) 50
  have v2 := LS s1 (by omega) 300
  have v3 := LS s2 (by omega) 50
  have v2b := v2.2 (by omega)
  have v3b := v3.2 (by omega)
  show FeF ns (k + 1) (AVD k (feKc s0 ns k))
  generalize feKc s0 ns k = y at *
  obtain ⟨ln, st, mi, t⟩ := ih
  unfold AVD
  cases AV y.s 4 == 0 with
  | false => exact ⟨ln, s1.mono (by omega), mi, λ i hi => by have := t i hi; show 0 <= (gD y.l i).t.lo /\ _; refine ⟨this.1, this.2.1, this.2.2.1, λ h => this.2.2.2 (by omega)⟩⟩
  | true =>
   have tk := t k (by omega)
   have tk4 := tk.2.2.2 (Nat.le_refl k)
   have e1 : feLo k y = (gD y.l k).t.lo + AV (AS y.s 4) 300 := PE (by omega) (by omega)
   have e2 : feHi k y = feLo k y + AV (AS (AS y.s 4) 300) 50 := PE (by omega) (by omega)
   refine ⟨(BUM _ _ _).trans ln, s3.mono (by omega), λ i hi => ?_, λ i hi => ?_⟩
   ·show (gD (setN y.l k _) i).mi = _ /\ (gD (setN y.l k _) i).s = _
    rw [BGC (by omega)]
    by_cases q : i = k
    ·subst q; rw [decide_eq_true rfl]; exact mi i hi
    ·rw [decide_eq_false q]; exact mi i hi
   ·show 0 <= (gD (setN y.l k _) i).t.lo /\ (gD (setN y.l k _) i).t.lo <= (gD (setN y.l k _) i).t.hi /\ (gD (setN y.l k _) i).t.hi <= 101000 /\ (k + 1 <= i -> (gD (setN y.l k _) i).t.hi <= 100000)
    rw [BGC (by omega)]
    by_cases q : i = k
    ·subst q; rw [decide_eq_true rfl]
     show 0 <= feLo i y /\ feLo i y <= feHi i y /\ feHi i y <= 101000 /\ (i + 1 <= i -> feHi i y <= 100000)
     omega
    ·rw [decide_eq_false q]
     have := t i hi
     exact ⟨this.1, this.2.1, this.2.2.1, λ h => this.2.2.2 (by omega)⟩
theorem CLV {a : MkI} {n : Nt} (h : nOk a n) : 0 <= n.t.lo /\ n.t.lo <= n.t.hi /\ n.t.hi <= 100000 := by
 obtain ⟨j, j1, j2, ⟨j3, j4⟩, ⟨j5, j6⟩, _⟩ := h
 exact ⟨j5, Int.le_trans j3 j4, j6⟩
end Go.Bal

namespace Go.Bal
open Go Go.Sym Go.Proofs
def wiN (c : Cht) (l : List Nt) : Cht := ⟨c.p, c.base, c.scale, c.off, c.ms, l⟩
theorem CJM {c : Cht} (h : ChOk c) {l : List Nt} (hl : l.length = c.ns.length) (hm : ∀ i, i < c.ns.length -> (gD l i).mi = (gD c.ns i).mi /\ (gD l i).s = (gD c.ns i).s) (ht : ∀ i, i < c.ns.length -> 0 <= (gD l i).t.lo /\ (gD l i).t.lo <= (gD l i).t.hi /\ (gD l i).t.hi <= 101000) : ChOk (wiN c l) := by
 refine ⟨h.m, ?_, h.p, h.b, h.sc, h.of, h.mks, h.up, λ n hn => ?_, λ i j hij hj => ?_⟩
 ·show l.length <= 20; rw [hl]; exact h.n
 ·obtain ⟨i, hi, rfl⟩ := XR (show n ∈ l from hn)
  rw [hl] at hi
  have q := h.nt _ (HP hi)
  have t := ht i hi
  obtain ⟨m1, m2⟩ := hm i hi
  exact ⟨by rw [m1]; exact q.mi, ⟨t.1, t.2.1, Int.le_trans t.2.2 (by decide)⟩, by rw [m2]; exact q.s⟩
 ·have hj : j < c.ns.length := by rw [<- hl]; exact hj
  show (gD l i).mi ≠ (gD l j).mi
  rw [(hm i (by omega)).1, (hm j hj).1]; exact h.one i j hij hj
theorem CEP {c : Cht} (h : ChOk c) {l : List Nt} (hl : l.length = c.ns.length) (hm : ∀ i, i < c.ns.length -> (gD l i).mi = (gD c.ns i).mi /\ (gD l i).s = (gD c.ns i).s) (hd : ChOk (wiN c l)) (j : Int) : Zi (wiN c l) j = Zi c j := by
 have e0 : st0 (wiN c l) j = st0 c j := rfl
 have q1 : hasN l j = hasN c.ns j := by
  rw [Bool.eq_iff_iff, Ss, Ss]
  constructor
  ·rintro ⟨n, hn, e⟩
   obtain ⟨i, hi, rfl⟩ := XR hn
   rw [hl] at hi
   exact ⟨_, HP hi, by rw [<- (hm i hi).1]; exact e⟩
  ·rintro ⟨n, hn, e⟩
   obtain ⟨i, hi, rfl⟩ := XR hn
   exact ⟨gD l i, HP (by omega), by rw [(hm i hi).1]; exact e⟩
 unfold Zi
 show (bif hasN l j then com (st0 (wiN c l) j) (ntOf l j).s else st0 (wiN c l) j) = _
 rw [q1, e0]
 cases e : hasN c.ns j with
 | false => rfl
 | true =>
  obtain ⟨n, hn, e⟩ := Ss.1 e
  obtain ⟨i, hi, rfl⟩ := XR hn
  subst e
  have k1 := h.ntOf (HP hi)
  have k2 := hd.ntOf (n := gD l i) (HP (by show i < l.length; omega))
  have k2 : ntOf l (gD l i).mi = gD l i := k2
  rw [(hm i hi).1] at k2
  rw [k1, k2, (hm i hi).2]
theorem BRX {c : Cht} (h : ChOk c) (hs : ZC c = true) {l : List Nt} (hl : l.length = c.ns.length) (hm : ∀ i, i < c.ns.length -> (gD l i).mi = (gD c.ns i).mi /\ (gD l i).s = (gD c.ns i).s) (hd : ChOk (wiN c l)) : ZC (wiN c l) = true := AXD.2 λ i hi => by
 rw [mI] at hi
 have hi : i < c.ms.length := hi
 have q := CJQ hs hi
 rw [BFZ hi] at q
 rw [BFZ (c := wiN c l) hi, CEP h hl hm hd]; exact q
end Go.Bal
