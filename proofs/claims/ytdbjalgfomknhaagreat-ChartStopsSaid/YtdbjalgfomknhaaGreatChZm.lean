/- Package chart, with the reference: Proves. -/
import Derived.Test.YtdbjalgfomknhaaGreatChZm0
import Derived.Test.YtdbjalgfomknhaaGreatChZw
set_option linter.unusedVariables false
set_option linter.unusedSimpArgs false
namespace Go.Bal
open Go Go.Sym Go.Proofs
def zvO (x : Prv) : Prop := AI x.c = 0 /\ x.l.length <= 40 /\ ∀ i, i < x.l.length -> PD x.c (gD x.l i) = true
def zvS (x : Prv) : List (Nat × AVal) := [(1, .int x.m), (2, .d (Kw x.l)), (3, .bptr 201 0)]
def zvH (x : Prv) : List (Nat × HCell) := [(201, .live (gI x.c))]
def zv7 (x : Prv) : Shape := { α := Nat, dflt := 0, T := λ k => ⟨zvS x ++ [(9, .int k)], zvH x⟩, inv := λ k => (k <= x.l.length /\ AI x.c = 0 /\ x.l.length <= 40) /\ ∀ i, i < k -> PD x.c (gD x.l i) = true, meas := λ k => x.l.length - k, first := [(201, 1000)] }
def zv12 (x : Prv) : Shape := { α := Nat, dflt := 0, T := λ k => ⟨zvS x ++ [(10, .int k)], zvH x⟩, inv := λ k => (k <= x.l.length /\ zvO x) /\ vZ x k = true, meas := λ k => x.l.length - k }
def zv17 (x : Prv) (m : Nat) : Shape := { α := IJ, dflt := default, T := λ s => ⟨zvS x ++ [(10, .int s.i), (11, .int s.j)], zvH x⟩, inv := λ s => (s.i < x.l.length /\ x.l.length - s.i = m /\ s.j <= s.i /\ zvO x) /\ (vZ x s.i = true /\ QT x.c (gD x.l s.i) = true) /\ ∀ k, k < s.j -> disP x k s.i, meas := λ s => s.i - s.j }
def BEC (x : Prv) : Ann := { ann 98 [(Ph, C_Check.spec aM), (bQ, C_zNoP.spec dCP), (nM, C_zLt.spec dCP)] with loops := λ id => if id = 7 then some [zv7 x] else if id = 12 then some [zv12 x] else none, inner := λ gs id => if id = 17 then some [zv17 x (gs.getD 0 0)] else none }
def BIL (x : Prv) : Prop := CF Try.prog (BEC x) D1 (AH D1) (xPrv x) (AB []) (.tup [.bool (UA x).1, .int (UA x).2]) [] [] []
abbrev kS (x : Prv) : Prop := x.c.p.lo = x.c.p.lo
abbrev jB (x : Prv) : Prop := x.c.p.hi = x.c.p.hi
abbrev zE (x : Prv) : List Mk := ME x.c.ms.length λ (i : Nat) => gD x.c.ms i
abbrev xZ (x : Prv) : Nat := (zE x).length
abbrev yB (x : Prv) : Prop := xZ x = x.c.ms.length
abbrev ACH (x : Prv) (i : Nat) : Mk := gD (zE x) i
abbrev xI (x : Prv) : Prop := ∀ (i : Nat), i < xZ x -> (ACH x i).pl = (gD x.c.ms i).pl /\ (ACH x i).ht = (gD x.c.ms i).ht
abbrev xL (x : Prv) : List Nt := ME x.c.ns.length λ (i : Nat) => gD x.c.ns i
abbrev zI (x : Prv) : Nat := (xL x).length
abbrev yC (x : Prv) : Prop := zI x = x.c.ns.length
abbrev oH (x : Prv) (i : Nat) : Nt := gD (xL x) i
abbrev J4 (x : Prv) (i : Nat) : Span := (oH x i).t
abbrev E2 (x : Prv) (i : Nat) : Span := (oH x i).s
abbrev oR (x : Prv) : Prop := ∀ (i : Nat), i < zI x -> (oH x i).mi = (gD x.c.ns i).mi /\ (J4 x i).lo = (gD x.c.ns i).t.lo /\ (J4 x i).hi = (gD x.c.ns i).t.hi /\ (E2 x i).lo = (gD
 x.c.ns i).s.lo /\ (E2 x i).hi = (gD x.c.ns i).s.hi
abbrev oI (x : Prv) : Cht := Cht.mk x.c.p x.c.base x.c.scale x.c.off (zE x) (xL x)
abbrev pO (x : Prv) : Int := AI (oI x)
abbrev Tf (x : Prv) : Prop := x.l.length = x.l.length
abbrev nF (x : Prv) (i : Nat) : Prop := (gD x.l i).a = (gD x.l i).a
abbrev oQ (x : Prv) (i : Nat) : Prop := (gD x.l i).b = (gD x.l i).b
abbrev Tc (x : Prv) : Prop := ∀ (i : Nat), i < x.l.length -> nF x i /\ oQ x i
abbrev Td (x : Prv) : Prop := kS x /\ jB x /\ x.c.base = x.c.base /\ x.c.scale = x.c.scale /\ x.c.off = x.c.off /\ x.c.ms.length = x.c.ms.length /\ (∀ (i : Nat), i < x.c.ms.length -> (gD x.c.ms i).pl = (gD
 x.c.ms i).pl /\ (gD x.c.ms i).ht = (gD x.c.ms i).ht) /\ x.c.ns.length = x.c.ns.length /\ ∀ (i : Nat), i < x.c.ns.length -> (gD x.c.ns i).mi = (gD x.c.ns i).mi /\ (gD x.c.ns i).t.lo = (gD x.c.ns i).t.lo /\ (gD x.c.ns i).t.hi =
 (gD x.c.ns i).t.hi /\ (gD x.c.ns i).s.lo = (gD x.c.ns i).s.lo /\ (gD x.c.ns i).s.hi = (gD x.c.ns i).s.hi
abbrev O0 (x : Prv) (a : Nat) : Prop := x.m = x.m /\ Tf x /\ Tc x /\ (↑a : Int) = 0 /\ Td x
abbrev M0 (x : Prv) : Prop := AI x.c = 0
abbrev L4 (x : Prv) : Prop := x.l.length <= 40
abbrev Q3 (x : Prv) (i : Nat) : Prop := PD x.c (gD x.l i) = true
abbrev qC (a : Nat) (x : Prv) : Prop := (a <= x.l.length /\ M0 x /\ L4 x) /\ ∀ (i : Nat), i < a -> Q3 x i
abbrev T3 (a : Nat) (x : Prv) : Prop := (↑a : Int) < (↑x.l.length : Int)
abbrev J6 (a : Nat) (x : Prv) : Bool := decide (T3 a x)
abbrev Q8 (a : Nat) (x : Prv) : Prop := 0 <= (↑a : Int) /\ T3 a x
abbrev E6 (x : Prv) : Prop := pO x = 0
abbrev F4 (x : Prv) (a : Nat) : Bool := PD (oI x) (gD x.l a)
abbrev mY (x : Prv) (a : Nat) : Nat := x.l.length - a
abbrev O3 (x : Prv) (a : Nat) (a1 : Nat) : Prop := mY x a < mY x a1
abbrev Q2 (x : Prv) : Prop := M0 x /\ L4 x /\ ∀ (i : Nat), i < x.l.length -> Q3 x i
abbrev pC (a : Nat) (x : Prv) : Prop := (a <= x.l.length /\ Q2 x) /\ vZ x a = true
abbrev G3 (x : Prv) : Prop := (UA x).snd = 0
abbrev B6 (x : Prv) : Prop := (UA x).fst = false /\ G3 x
abbrev mZ (a : IJ) (x : Prv) (a1 : Nat) : Prop := (a.i < x.l.length /\ x.l.length - a.i = mY x a1 /\ a.j <= a.i /\ Q2 x) /\ (vZ x a.i = true /\ QT x.c (gD x.l a.i) = true) /\ ∀ (k : Nat), k < a.j -> ∀ (i
 : Nat), ¬((Aj x k <= (↑i : Int) /\ (↑i : Int) < yM x k) /\ Aj x a.i <= (↑i : Int) /\ (↑i : Int) < yM x a.i)
abbrev R0 (a : IJ) (x : Prv) : Prop := 0 <= (↑a.i : Int) /\ (↑a.i : Int) < (↑x.l.length : Int)
abbrev E1 (a : IJ) (x : Prv) : Prop := 0 <= (↑a.j : Int) /\ (↑a.j : Int) < (↑x.l.length : Int)
abbrev J3 (x : Prv) (a : IJ) : Bool := decide ((gD x.c.ns (gD x.l a.i).a.toNat).mi < (gD x.c.ns (gD x.l a.j).b.toNat).mi)
abbrev aP (x : Prv) (a : IJ) : Prop := J3 x a = true
abbrev M3 (a : IJ) : Nat := a.i - a.j
theorem BMI (x : Prv) : (BIL x) = ((kS x /\ jB x /\ x.c.base = x.c.base /\ x.c.scale = x.c.scale /\ x.c.off = x.c.off /\ yB x /\ xI x /\ yC x /\ oR x /\ xZ x < 4611686018427387904
 /\ zI x < 4611686018427387904) /\ bif pO x != 0 then (UA x).fst = false /\ (UA x).snd = pO x else bif decide ((↑x.l.length : Int) > 40) then (UA x).fst = false /\ (UA x).snd = 3 else (∃ (a :
 Nat), O0 x a /\ qC a x) /\ ∀ (a : Nat), qC a x -> bif J6 a x then (Q8 a x /\ kS x /\ jB x /\ x.c.base = x.c.base /\ x.c.scale = x.c.scale /\ x.c.off = x.c.off /\ yB x /\
 xI x /\ yC x /\ oR x /\ nF x a /\ oQ x a /\ E6 x) /\ bif !F4 x a then (UA x).fst = false /\ (UA x).snd = 2 else ∃ (a_2 : Nat), (x.m = x.m /\ Tf x /\ Tc x /\ (↑a_2
 : Int) = IntKind.i64.wrap ((↑a : Int) + 1) /\ Td x) /\ qC a_2 x /\ O3 x a_2 a else (∃ (a : Nat), O0 x a /\ pC a x) /\ ∀ (a : Nat), pC a x -> bif J6 a x then (Q8 a x /\
 kS x /\ jB x /\ x.c.base = x.c.base /\ x.c.scale = x.c.scale /\ x.c.off = x.c.off /\ yB x /\ xI x /\ yC x /\ oR x /\ nF x a /\ oQ x a /\ E6 x /\ F4 x a = true) /\ bif
 !QT (oI x) (gD x.l a) then B6 x else (∃ (a_3 : IJ), (x.m = x.m /\ Tf x /\ Tc x /\ (↑a_3.i : Int) = (↑a : Int) /\ (↑a_3.j : Int) = 0 /\ Td x) /\ mZ a_3 x a) /\ ∀ (a_3 : IJ), mZ
 a_3 x a -> bif decide ((↑a_3.j : Int) < (↑a_3.i : Int)) then (R0 a_3 x /\ (0 <= (gD x.l a_3.i).a /\ (gD x.l a_3.i).a < (↑x.c.ns.length : Int)) /\ E1 a_3 x /\ (0 <= (gD x.l a_3.j).b /\ (gD x.l a_3.j).b <
 (↑x.c.ns.length : Int)) /\ (aP x a_3 -> E1 a_3 x) /\ (aP x a_3 -> 0 <= (gD x.l a_3.j).a /\ (gD x.l a_3.j).a < (↑x.c.ns.length : Int)) /\ (aP x a_3 -> R0 a_3 x) /\ (aP x a_3 -> 0 <= (gD x.l
 a_3.i).b /\ (gD x.l a_3.i).b < (↑x.c.ns.length : Int))) /\ bif bif J3 x a_3 then decide ((gD x.c.ns (gD x.l a_3.j).a.toNat).mi < (gD x.c.ns (gD x.l a_3.i).b.toNat).mi) else false then B6 x else ∃ (a_5 : IJ),
 (x.m = x.m /\ Tf x /\ Tc x /\ (↑a_5.i : Int) = (↑a_3.i : Int) /\ (↑a_5.j : Int) = IntKind.i64.wrap ((↑a_3.j : Int) + 1) /\ Td x) /\ mZ a_5 x a /\ M3 a_5 < M3 a_3 else ∃ (a_5 : Nat),
 (x.m = x.m /\ Tf x /\ Tc x /\ (↑a_5 : Int) = IntKind.i64.wrap ((↑a_3.i : Int) + 1) /\ Td x) /\ pC a_5 x /\ O3 x a_5 a else (UA x).fst = decide ((↑x.l.length : Int) >= x.m) /\ G3 x) :=
 by kernel_rfl
theorem BGV (x : Prv) {k : Nat} (h : vZ x (k + 1) = false) : ∀ n, k < n -> vZ x n = false
 | 0, hn => absurd hn (Nat.not_lt_zero _)
 | n + 1, hn => by
  by_cases e : k = n
  ·subst e; exact h
  ·show (vZ x n && _ && _) = false
   rw [BGV x h n (by omega)]; rfl
theorem AKU {x : Prv} (h : zvO x) : UA x = (vZ x x.l.length && decide ((x.l.length : Int) >= x.m), 0) := by
 obtain ⟨h0, h1, h2⟩ := h
 unfold UA Cw
 have e : (x.l.all λ p => PD x.c p) = true := List.all_eq_true.2 λ p hp => by obtain ⟨i, hi, rfl⟩ := OV hp; exact h2 i hi
 rw [h0, decide_eq_false (show ¬ (x.l.length : Int) > 40 by omega), e]; rfl
theorem AZJ {x : Prv} (h : zvO x) {i : Nat} (hi : i < x.l.length) : ((0 <= (gD x.l i).a /\ (gD x.l i).a < x.c.ns.length) /\ 0 <= (gD x.l i).b /\ (gD x.l i).b < x.c.ns.length) /\ 0 <= Aj x i /\ Aj x i < yM x i := by
 have hc := MA.1 h.1
 obtain ⟨q1, q2⟩ := BAQ (x := ⟨x.c, gD x.l i⟩) h.1 (h.2.2 i hi)
 have q1 : (0 <= (gD x.l i).a /\ (gD x.l i).a < x.c.ns.length) /\ 0 <= (gD x.l i).b /\ (gD x.l i).b < x.c.ns.length := q1
 have m := (hc.nt _ (show nA x.c (gD x.l i) ∈ x.c.ns from HW (by omega))).mi
 exact ⟨q1, m.1, q2⟩
theorem BUI (x : Prv) (h : x.c.ms.length < 4611686018427387904 /\ x.c.ns.length < 4611686018427387904 /\ x.l.length < 4611686018427387904) : BIL x := by
 rw [BMI]; delta kS jB zE xZ yB ACH xI xL zI yC oH J4 E2 oR oI pO Tf nF oQ Tc Td O0 M0 L4 Q3 qC T3 J6 Q8 E6 F4 mY O3 Q2 pC G3 B6 mZ R0 E1 J3 aP M3; simp only [CC, eq_self, implies_true, forall_const, CL]
 refine ⟨⟨h.1, h.2.1⟩, λ q => ?_, λ q => ?_⟩
 ·have q' : (AI x.c == 0) = false := by simpa using q
  unfold UA; rw [q']; exact ⟨rfl, rfl⟩
 have h0 : AI x.c = 0 := by simpa using q
 have e0 : UA x = Cw x := by unfold UA; rw [h0]; rfl
 refine ⟨λ hl => ?_, λ hl => ⟨⟨0, rfl, ⟨Nat.zero_le _, h0, by omega⟩, λ i hi => absurd hi (Nat.not_lt_zero _)⟩, λ k ⟨⟨k1, _, k3⟩, k4⟩ => ⟨λ hlt => ⟨⟨by omega, h0⟩, λ hp => ?_, λ hp => ⟨k + 1, (HL (by omega)).symm, ⟨⟨by omega, h0, k3⟩, λ i hi => ?_⟩, by omega⟩⟩, λ hge => ?_⟩⟩⟩
 ·rw [e0]; unfold Cw; rw [decide_eq_true (show (x.l.length : Int) > 40 by omega)]; exact ⟨rfl, rfl⟩
 ·have e : (x.l.all λ p => PD x.c p) = false := by
   cases q : (x.l.all λ p => PD x.c p) with
   | false => rfl
   | true =>
    have := List.all_eq_true.1 q (gD x.l k) (HW (by omega))
    rw [hp] at this; cases this
  rw [e0]; unfold Cw; rw [decide_eq_false (show ¬ (x.l.length : Int) > 40 by omega), e]; exact ⟨rfl, rfl⟩
 ·by_cases e : i = k
  ·subst e; exact hp
  ·exact k4 i (by omega)
 have hz : zvO x := ⟨h0, k3, λ i hi => k4 i (by omega)⟩
 have nn : ∀ n, n <= x.l.length -> ∀ k, k < n -> 0 <= Aj x k := λ n hn k hk => (AZJ hz (by omega)).2.1
 have bad : ∀ k, k < x.l.length -> vZ x (k + 1) = false -> (UA x).1 = false /\ (UA x).2 = 0 := λ k hk hb => by
  rw [AKU hz, BGV x hb _ hk]; exact ⟨rfl, rfl⟩
 refine ⟨⟨0, rfl, ⟨Nat.zero_le _, hz⟩, rfl⟩, λ k ⟨⟨k1, _⟩, k5⟩ => ⟨λ hlt => ⟨⟨by omega, h0, hz.2.2 k (by omega)⟩, λ hp => ?_, λ hp => ⟨⟨⟨k, 0⟩, ⟨rfl, rfl⟩, ⟨by show k < _; omega, rfl, Nat.zero_le _, hz⟩, ⟨k5, hp⟩, λ j hj => absurd hj (Nat.not_lt_zero _)⟩, λ s ⟨⟨s1, s2, s3, _⟩, ⟨s4, s5⟩, s6⟩ => ⟨λ hj => ?_, λ hj => ?_⟩⟩⟩, λ hge => ?_⟩⟩
 ·refine bad k (by omega) ?_
  show (vZ x k && QT x.c (gD x.l k) && _) = false
  rw [hp, Bool.and_false]; rfl
 ·have hj : s.j < s.i := by omega
  obtain ⟨a1, a2⟩ := AZJ hz s1
  obtain ⟨a3, a4⟩ := AZJ hz (show s.j < x.l.length by omega)
  have di := BQB a4 a2
  refine ⟨⟨by omega, by omega, by omega, by omega, λ _ => by omega, λ _ => by omega, λ _ => by omega, λ _ => by omega⟩, λ hb => ?_, λ hb => ⟨⟨s.i, s.j + 1⟩, ⟨rfl, (HL (by omega)).symm⟩, ⟨⟨s1, s2, by show s.j + 1 <= s.i; omega, hz⟩, ⟨s4, s5⟩, λ j hj2 => ?_⟩, by show s.i - (s.j + 1) < s.i - s.j; omega⟩⟩
  ·have hb2 : Aj x s.i < yM x s.j /\ Aj x s.j < yM x s.i := by
    by_cases q1 : (gD x.c.ns (gD x.l s.i).a.toNat).mi < (gD x.c.ns (gD x.l s.j).b.toNat).mi
    ·rw [decide_eq_true q1] at hb
     exact ⟨q1, of_decide_eq_true hb⟩
    ·rw [decide_eq_false q1] at hb; cases hb
   refine bad s.i s1 ?_
   cases q : vZ x (s.i + 1) with
   | false => rfl
   | true =>
    have := ((ADY (s.i + 1) (nn _ (by omega))).1 q).2 s.j s.i hj (Nat.lt_succ_self _)
    exact absurd hb2 (di.1 this)
  ·by_cases e : j = s.j
   ·subst e
    refine di.2 λ hb2 => ?_
    have q1 : (gD x.c.ns (gD x.l s.i).a.toNat).mi < (gD x.c.ns (gD x.l s.j).b.toNat).mi := hb2.1
    have q2 : (gD x.c.ns (gD x.l s.j).a.toNat).mi < (gD x.c.ns (gD x.l s.i).b.toNat).mi := hb2.2
    rw [decide_eq_true q1, decide_eq_true q2] at hb; cases hb
   ·exact s6 j (by have : j < s.j + 1 := hj2; omega)
 ·have hj : s.j = s.i := by omega
  refine ⟨s.i + 1, (HL (by omega)).symm, ⟨⟨by omega, hz⟩, ?_⟩, by omega⟩
  obtain ⟨r1, r2⟩ := (ADY s.i (nn _ (by omega))).1 s4
  refine (ADY (s.i + 1) (nn _ (by omega))).2 ⟨λ k hk => ?_, λ j k hjk hk => ?_⟩
  ·by_cases e : k = s.i
   ·subst e; exact s5
   ·exact r1 k (by omega)
  ·by_cases e : k = s.i
   ·subst e; exact s6 j (by omega)
   ·exact r2 j k hjk (by omega)
 ·obtain rfl : k = x.l.length := by omega
  rw [AKU hz, k5]; exact ⟨rfl, rfl⟩
theorem BOJ : AK Try.prog O8 (C_prov.spec dPrv) := VV C_prov BEC [] [] AUY (λ _ => by kernel_rfl) (λ _ => AA bY (AA BAV (AA AUJ AC))) (λ x h => BUI x h) (λ _ => WY rfl rfl) _
end Go.Bal
