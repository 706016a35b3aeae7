/- Package chart: charts that are made of numbers, with stops. -/
import Derived.Test.YtdbjalgfomknhaaChWT
import Derived.Test.YtdbjalgfomknhaaChW
set_option linter.unusedVariables false
set_option linter.unusedSimpArgs false
namespace Go.Bal
open Go Go.Sym Go.Proofs
set_option maxHeartbeats 4000000 in
theorem CBX (a : MkI) (h : wO a) (hb : a.b = true) : BQE a := by
 obtain ⟨b1, b2, b3, b4, b5, b6⟩ := AYG h
 obtain ⟨n1, n2, n3⟩ := BPO h
 have m2 := h.2.2
 rw [BYN]; delta AFI APW AFH ATO APQ AQE AFD ATR ARB AUI rH AHK bF rV AIR oJ AMT ALA AKK uP AMX aT sR Ov AJH uK AJR ALJ AMC pV AKJ bX tI AIB qE AIN AF AB AD uE sT AJJ AIQ oF AJM sC AHZ AJX uJ AJV oG tS AKX AHT qB AJB Ih AMQ pL sI rQ uH aR ALP rP ALM AMI AHS sV WD pQ qQ rC tY AMD AMN Xv AHP sF ALF qG aX sL uG Nj AIG AIX oX sZ Yx aC qV Hm tG AKR Yn AIW Yt AJU tN wP xJ E5 eU AAP ABH AAO St W3 dO vD zK fW V8 gS K7 gG fR dR dA vZ wD E4 S2 N5 yB fN YZ iG iB cQ dV M2 vW wL P9 H8 PQ O9 F2 fM Sk Ra eE ABB ABA wT eI xE Si dH ACI wS ABS C5 eC M9 X9 P2 ADP H9 VA VP VL Qg Qx Rg gT G2 Z1 M3 ABN ACB iT E1 iU dQ iI V0 Jf Rz I5 AAH ABM gK AAK wA AAS yW vL Z0 xF fT Q8 zX L9 yM vF cL Je iC iE dI dC Qm Rd Rn T6 wW Y4 X3 dP ABV N4 eZ wC Q0 Ji S0 J1 Y0 ABX yX ABI vH D8 hG ADL O6 ABY Se U0 Bv SA SH RY SK SR SB SP SE De hX G3 X0 xV eR V1 eV E6 zG X8 F6 Sm yL fX D5 L0 vI zM J6 Iy ABC N6 G0 vS Qr Sa gW E0 Y3 xL vJ zQ vP C4 gO L4 F3 ACW fG Y1 xI wB Rk G1 cN ACP U8 Rw I4 eJ Y7 zD D6 cY C2 J3 F7 Rx D1 dK X7 K2 AAV eF vG yG N8 dZ Y9 Q3 yI Rf G6 gZ J4 yF U2 U9 Ry A9 fS A5 yZ AAX ACX P3 xK yV Z9 L1 vQ iL AAG K8 Qp xX D9 ADC zN P7 Jb T2 xN zF zS T9 AAI Ri M0 dT L3 AAM ABE xW V9 xG zW iF A4 Jd S1 AAZ yH U5 fE vO zY ABJ T5 O7 K3 wN X6 K0 yC gI dF Q5 Qv H3 cO W6 cW G7 Iv gY It fO AAQ wV ACG A0 cV I0 S6 zH; simp only [CC, eq_self, implies_true, forall_const, BOK]
 refine ⟨⟨⟨rfl, rfl, h.1.used.1, rfl, rfl, b1.used.1, rfl, b2.used.1, rfl, b3.used.1⟩, default, ⟨rfl, λ _ _ => rfl, rfl, rfl, rfl, rfl, rfl, rfl⟩, b4⟩, λ _ => ⟨⟨⟨rfl, b4.used.1⟩, default, ⟨rfl, λ _ _ => rfl, rfl, rfl, rfl⟩, b5⟩, λ _ => ⟨⟨⟨rfl, b5.used.1⟩, default, ⟨rfl, rfl, λ _ _ => rfl, rfl, rfl⟩, b6⟩, λ _ => ⟨⟨⟨rfl, b6.used.1⟩, ⟨⟨mN a, mS0 a⟩, ⟨rfl, rfl, n1, rfl, λ _ _ => rfl, rfl, rfl⟩, ⟨rfl, n3, ?_, ?_, rfl, rfl, .inl rfl⟩, n2, rfl, rfl⟩, ?_, ?_, ?_⟩, ?_⟩⟩⟩⟩
 ·exact (IB b6 (by omega) 1 a.m).mono (by show 6 + 1 <= 7 + 7 * (a.m - (mN a : Int)); omega)
 ·show (((0 : Nat) : Int)) + (mN a : Int) <= a.m; omega
 ·rintro ⟨k, s, pl, tm, ms, t, st, z⟩ ⟨⟨i1, i2, i3, i4, i5, i6, i7⟩, j1, j2, j3⟩
  dsimp only at i1 i2 i3 i4 i5 i6 i7 j1 j2 j3 ⊢
  subst j2 j3
  obtain rfl : t = [] := List.length_eq_zero_iff.1 i5
  obtain rfl : st = [] := List.length_eq_zero_iff.1 i6
  refine ⟨λ _ => ⟨⟨⟨k, s, pl, tm, [], [], [], []⟩, ⟨rfl, rfl, rfl, rfl, λ _ _ => rfl, rfl, rfl⟩, ⟨?_, ⟨j1, i2⟩, i3.mono (by show 7 + 7 * (a.m - (k : Int)) <= 11 + 7 * (a.m - (k : Int)); omega), i4, rfl, rfl, Nat.le_refl _⟩, rfl, rfl⟩, ?_⟩, λ hk => absurd (show (k : Int) > 0 by omega) hk⟩
  ·rw [<- i1, ASC j1, go_0 rfl]
  ·rintro ⟨k, s, pl, tm, ms, t, st, z⟩ ⟨⟨q1, q2, q3, q4, q5, q6, q7⟩, p1, p2⟩
   dsimp only at q1 q2 q3 q4 q5 q6 q7 p1 p2 ⊢
   subst p1 p2
   obtain rfl : t = [] := List.length_eq_zero_iff.1 q5
   obtain rfl : st = [] := List.length_eq_zero_iff.1 q6
   have s1 := q3.next (by omega) 60
   refine ⟨⟨rfl, q3.used.1⟩, ⟨by decide, by decide, s1.used.1, by decide⟩, ⟨k - 1, Wr a ⟨s, pl, tm, [], [], [], []⟩⟩, ⟨rfl, rfl, ?_, rfl, λ _ _ => rfl, rfl, rfl, rfl, rfl, rfl, rfl, λ i hi => ?_, rfl, λ i hi => ?_, rfl, λ i hi => ?_⟩, ⟨⟨q1, by show ((k - 1 : Nat) : Int) <= _; omega, (IB s1 (by omega) _ _).mono ?_, ?_, rfl, rfl, .inl rfl⟩, Nat.one_pos, rfl⟩, by show k - 1 + 20 < 100; omega⟩
   ·rw [PE (by omega) (by omega)]; show ((k - 1 : Nat) : Int) = _; omega
   ·have hi : i < 1 := hi
    obtain rfl : i = 0 := by omega
    exact ⟨rfl, rfl⟩
   ·have hi : i < 1 := hi
    obtain rfl : i = 0 := by omega
    rfl
   ·have hi : i < 1 := hi
    obtain rfl : i = 0 := by omega
    rfl
   ·show 11 + 7 * (a.m - (k : Int)) + 1 + 1 <= 7 + 7 * (a.m - ((k - 1 : Nat) : Int)); omega
   ·show ((1 : Nat) : Int) + ((k - 1 : Nat) : Int) <= a.m; omega
 ·rintro ⟨k, x⟩ ⟨⟨i1, i2, i3, i4, i5, i6, i7⟩, j1, j2⟩
  dsimp only at i1 i2 i3 i4 i5 i6 i7 j1 j2 ⊢
  have s1 := IB i3 (by omega) 1 30
  refine ⟨λ hk => ⟨⟨λ hm => ⟨⟨rfl, rfl, i3.used.1⟩, ⟨s1.used.1, ⟨k, advA a x⟩, ⟨rfl, rfl, rfl, rfl, λ _ _ => rfl, rfl, rfl, rfl, rfl, rfl, rfl, λ _ _ => ⟨rfl, rfl⟩, rfl, λ _ _ => rfl, rfl, λ _ _ => rfl⟩, ⟨?_, ⟨by show 0 < k; omega, i2⟩, (IB s1 (by omega) _ _).mono ?_, i4, i5, i6, ?_⟩, by show k + 19 < k + 20; omega, j1, j2⟩, ?_⟩, λ hm => absurd (show (x.ms.length : Int) > 0 by omega) hm⟩, ?_, ?_⟩, λ hk => ?_⟩
  ·exact (show _ = Ve a k x by rw [ASC (k := k) (x := x) (by omega), go_1 j1]).trans i1
  ·show 7 + 7 * (a.m - (k : Int)) + 1 + 1 <= 9 + 7 * (a.m - (k : Int)); omega
  ·show x.z.length < x.ms.length; rw [j2]; exact j1
  ·rintro ⟨k2, x2⟩ ⟨⟨q1, q2, q3, q4, q5, q6, q7⟩, p0, p1, p2⟩
   dsimp only at q1 q2 q3 q4 q5 q6 q7 p0 p1 p2 ⊢
   have t1 := q3.next (by omega) 5
   have t2 := t1.next (by omega) 400
   refine ⟨⟨rfl, q3.used.1⟩, λ hc => ⟨⟨(λ h => by cases h), Nat.one_pos, Nat.one_pos, by decide, by decide⟩, ⟨rfl, t1.used.1⟩, ⟨k2, ⟨AS (AS x2.s 5) 400, x2.pl, wr (x2.tm + AV (AS x2.s 5) 400), x2.ms, x2.t, x2.st, [wr ((x2.ms.length : Int) - 1)]⟩⟩, ⟨rfl, rfl, rfl, rfl, λ _ _ => rfl, rfl, rfl, rfl, rfl, rfl, rfl, rfl, λ _ _ => ⟨rfl, rfl⟩, rfl, λ _ _ => rfl, rfl, λ _ _ => rfl, rfl, λ i hi => ?_⟩, ⟨?_, q2, t2.mono ?_, q4, q5, q6, ?_⟩, ?_, p1, Nat.one_pos⟩, λ hc => ⟨⟨k2, ⟨AS x2.s 5, x2.pl, x2.tm, x2.ms, x2.t, x2.st, x2.z⟩⟩, ⟨rfl, rfl, rfl, rfl, λ _ _ => rfl, rfl, rfl, rfl, rfl, rfl, rfl, λ _ _ => ⟨rfl, rfl⟩, rfl, λ _ _ => rfl, rfl, λ _ _ => rfl⟩, ⟨?_, q2, t1.mono ?_, q4, q5, q6, Nat.le_of_lt q7⟩, p0, p1, p2⟩⟩
   ·have hi : i < 1 := hi
    obtain rfl : i = 0 := by omega
    rfl
   ·have hc : (AV x2.s 5 == 0) = true := hc
    have ez : cG a x2 = ⟨AS (AS x2.s 5) 400, x2.pl, wr (x2.tm + AV (AS x2.s 5) 400), x2.ms, x2.t, x2.st, [wr ((x2.ms.length : Int) - 1)]⟩ := by
     unfold cG; rw [hb, hc, p2]; rfl
    rw [ez] at q1; exact q1
   ·show 9 + 7 * (a.m - (k2 : Int)) + 1 + 1 <= 11 + 7 * (a.m - (k2 : Int)); omega
   ·show 1 <= x2.ms.length; exact p1
   ·show k2 <= k + 20; omega
   ·have hc : (AV x2.s 5 == 0) = false := hc
    have ez : cG a x2 = ⟨AS x2.s 5, x2.pl, x2.tm, x2.ms, x2.t, x2.st, x2.z⟩ := by
     unfold cG; rw [hb, hc]; rfl
    rw [ez] at q1; exact q1
   ·show 9 + 7 * (a.m - (k2 : Int)) + 1 <= 11 + 7 * (a.m - (k2 : Int)); omega
  ·rintro ⟨k2, x2⟩ ⟨⟨q1, q2, q3, q4, q5, q6, q7⟩, p0, p1, p2⟩
   dsimp only at q1 q2 q3 q4 q5 q6 q7 p0 p1 p2 ⊢
   have s2 := q3.next (by omega) 60
   refine ⟨⟨rfl, q3.used.1⟩, ⟨⟨Nat.one_pos, (λ h => by cases h), by omega, by omega⟩, ⟨Nat.one_pos, (λ h => by cases h), by omega, by omega⟩, s2.used.1, Nat.one_pos, (λ h => by cases h), by omega, by omega⟩, ⟨k2 - 1, Wr a x2⟩, ⟨rfl, rfl, ?_, rfl, λ _ _ => rfl, rfl, rfl, ?_, ?_, ?_, ?_, λ i hi => ?_, ?_, λ i hi => ?_, ?_, λ i hi => ?_⟩, ⟨⟨q1, by show ((k2 - 1 : Nat) : Int) <= _; omega, (IB s2 (by omega) _ _).mono ?_, ?_, ?_, ?_, .inl p2⟩, ?_, p2⟩, by show k2 - 1 + 20 < k + 20; omega⟩
   ·rw [PE (by omega) (by omega)]; show ((k2 - 1 : Nat) : Int) = _; omega
   ·show (x2.ms ++ [_]).length = _; simp
   ·show (x2.t ++ [_]).length = _; simp
   ·show (x2.st ++ [_]).length = _; simp
   ·show (x2.ms ++ [_]).length = _; simp
   ·have hi : i < (x2.ms ++ [_]).length := hi
    rw [List.length_append] at hi
    show (gD (x2.ms ++ [_]) i).pl = _ /\ (gD (x2.ms ++ [_]) i).ht = _
    rw [KK _ _ _ (by simpa using hi)]
    cases decide (i < x2.ms.length) <;> exact ⟨rfl, rfl⟩
   ·show (x2.t ++ [_]).length = _; simp
   ·have hi : i < (x2.t ++ [x2.tm]).length := hi
    rw [List.length_append] at hi
    show gD (x2.t ++ [_]) i = _
    rw [KK _ _ _ (by simpa using hi)]
   ·show (x2.st ++ [_]).length = _; simp
   ·have hi : i < (x2.st ++ [(0 : Int)]).length := by have := hi; simpa [Wr] using this
    rw [List.length_append] at hi
    show gD (x2.st ++ [_]) i = _
    rw [KK _ _ _ (by simpa using hi)]; rfl
   ·show 11 + 7 * (a.m - (k2 : Int)) + 1 + 1 <= 7 + 7 * (a.m - ((k2 - 1 : Nat) : Int)); omega
   ·show (((x2.ms ++ [_]).length : Nat) : Int) + ((k2 - 1 : Nat) : Int) <= a.m
    rw [List.length_append]; simp; omega
   ·show (x2.t ++ [_]).length = (x2.ms ++ [_]).length; simp [q5]
   ·show (x2.st ++ [_]).length = (x2.ms ++ [_]).length; simp [q6]
   ·show 0 < (x2.ms ++ [_]).length; simp
  ·rintro ⟨k2, x2⟩ ⟨⟨q1, q2, q3, q4, q5, q6, q7⟩, p0, p1, p2⟩
   dsimp only at q1 q2 q3 q4 q5 q6 q7 p0 p1 p2 ⊢
   have s2 := q3.next (by omega) 60
   refine ⟨⟨rfl, q3.used.1⟩, ⟨⟨Nat.one_pos, (λ h => by cases h), by omega, by omega⟩, ⟨Nat.one_pos, (λ h => by cases h), by omega, by omega⟩, s2.used.1, Nat.one_pos, (λ h => by cases h), by omega, by omega⟩, ⟨k2 - 1, Wr a x2⟩, ⟨rfl, rfl, ?_, rfl, λ _ _ => rfl, rfl, rfl, ?_, ?_, ?_, rfl, ?_, λ i hi => ?_, ?_, λ i hi => ?_, ?_, λ i hi => ?_, rfl, λ _ _ => rfl⟩, ⟨⟨q1, by show ((k2 - 1 : Nat) : Int) <= _; omega, (IB s2 (by omega) _ _).mono ?_, ?_, ?_, ?_, .inr ?_⟩, ?_, p2⟩, by show k2 - 1 < k + 20; omega⟩
   ·rw [PE (by omega) (by omega)]; show ((k2 - 1 : Nat) : Int) = _; omega
   ·show (x2.ms ++ [_]).length = _; simp
   ·show (x2.t ++ [_]).length = _; simp
   ·show (x2.st ++ [_]).length = _; simp
   ·show (x2.ms ++ [_]).length = _; simp
   ·have hi : i < (x2.ms ++ [_]).length := hi
    rw [List.length_append] at hi
    show (gD (x2.ms ++ [_]) i).pl = _ /\ (gD (x2.ms ++ [_]) i).ht = _
    rw [KK _ _ _ (by simpa using hi)]
    cases decide (i < x2.ms.length) <;> exact ⟨rfl, rfl⟩
   ·show (x2.t ++ [_]).length = _; simp
   ·have hi : i < (x2.t ++ [x2.tm]).length := hi
    rw [List.length_append] at hi
    show gD (x2.t ++ [_]) i = _
    rw [KK _ _ _ (by simpa using hi)]
   ·show (x2.st ++ [_]).length = _; simp
   ·have hi : i < (x2.st ++ [(0 : Int)]).length := by have := hi; simpa [Wr] using this
    rw [List.length_append] at hi
    show gD (x2.st ++ [_]) i = _
    rw [KK _ _ _ (by simpa using hi)]; rfl
   ·show 11 + 7 * (a.m - (k2 : Int)) + 1 + 1 <= 7 + 7 * (a.m - ((k2 - 1 : Nat) : Int)); omega
   ·show (((x2.ms ++ [_]).length : Nat) : Int) + ((k2 - 1 : Nat) : Int) <= a.m
    rw [List.length_append]; simp; omega
   ·show (x2.t ++ [_]).length = (x2.ms ++ [_]).length; simp [q5]
   ·show (x2.st ++ [_]).length = (x2.ms ++ [_]).length; simp [q6]
   ·show x2.z.length < (x2.ms ++ [_]).length; simp; omega
   ·show 0 < (x2.ms ++ [_]).length; simp
  ·obtain rfl : k = 0 := by omega
   have e : x = mS a := i1
   subst e
   exact ⟨default, ⟨rfl, λ _ _ => rfl, rfl, rfl, rfl, Nat.le_refl _, λ _ _ => ⟨rfl, rfl⟩, rfl, Nat.le_refl _, λ _ _ => rfl, rfl, Nat.le_refl _, λ _ _ => rfl, by rw [j2]; rfl⟩, i1, i2, i3, i4, i5, i6, i7⟩
 ·rintro ⟨k, x⟩ ⟨⟨i1, i2, i3, i4, i5, i6, i7⟩, j1, j2⟩
  dsimp only at i1 i2 i3 i4 i5 i6 i7 j1 j2 ⊢
  have s1 := IB i3 (by omega) 1 30
  have i8 : x.z.length < x.ms.length := i7.elim (λ e => by rw [e] at j2; exact absurd j2 (Nat.lt_irrefl 0)) id
  refine ⟨λ hk => ⟨⟨λ hm => ⟨⟨rfl, rfl, i3.used.1⟩, ⟨s1.used.1, ⟨k, advA a x⟩, ⟨rfl, rfl, rfl, rfl, λ _ _ => rfl, rfl, rfl, rfl, rfl, rfl, rfl, rfl, λ _ _ => ⟨rfl, rfl⟩, rfl, λ _ _ => rfl, rfl, λ _ _ => rfl, rfl, λ _ _ => rfl⟩, ⟨?_, ⟨by show 0 < k; omega, i2⟩, (IB s1 (by omega) _ _).mono ?_, i4, i5, i6, i8⟩, Nat.le_refl k, j1, j2⟩, ?_⟩, λ hm => absurd (show (x.ms.length : Int) > 0 by omega) hm⟩, ?_⟩, λ hk => ?_⟩
  ·exact (show _ = Ve a k x by rw [ASC (k := k) (x := x) (by omega), go_1 j1]).trans i1
  ·show 7 + 7 * (a.m - (k : Int)) + 1 + 1 <= 9 + 7 * (a.m - (k : Int)); omega
  ·rintro ⟨k2, x2⟩ ⟨⟨q1, q2, q3, q4, q5, q6, q7⟩, p0, p1, p2⟩
   dsimp only at q1 q2 q3 q4 q5 q6 q7 p0 p1 p2 ⊢
   have t1 := q3.next (by omega) 5
   have t2 := t1.next (by omega) 400
   refine ⟨⟨rfl, q3.used.1⟩, λ hc => ⟨⟨Nat.one_pos, (λ h => by cases h), by omega, by omega⟩, ⟨rfl, t1.used.1⟩, ⟨k2, ⟨AS (AS x2.s 5) 400, x2.pl, wr (x2.tm + AV (AS x2.s 5) 400), x2.ms, x2.t, x2.st, x2.z ++ [wr ((x2.ms.length : Int) - 1)]⟩⟩, ⟨rfl, rfl, rfl, rfl, λ _ _ => rfl, rfl, rfl, rfl, rfl, rfl, ?_, rfl, λ _ _ => ⟨rfl, rfl⟩, rfl, λ _ _ => rfl, rfl, λ _ _ => rfl, ?_, λ i hi => ?_⟩, ⟨?_, q2, t2.mono ?_, q4, q5, q6, ?_⟩, ?_, p1, ?_⟩, λ hc => ⟨⟨k2, ⟨AS x2.s 5, x2.pl, x2.tm, x2.ms, x2.t, x2.st, x2.z⟩⟩, ⟨rfl, rfl, rfl, rfl, λ _ _ => rfl, rfl, rfl, rfl, rfl, rfl, rfl, rfl, λ _ _ => ⟨rfl, rfl⟩, rfl, λ _ _ => rfl, rfl, λ _ _ => rfl, rfl, λ _ _ => rfl⟩, ⟨?_, q2, t1.mono ?_, q4, q5, q6, Nat.le_of_lt q7⟩, p0, p1, p2⟩⟩
   ·show (x2.z ++ [_]).length = _; simp
   ·show (x2.z ++ [_]).length = _; simp
   ·have hi : i < (x2.z ++ [(0 : Int)]).length := by have := hi; simpa using this
    rw [List.length_append] at hi
    show gD (x2.z ++ [_]) i = _
    rw [KK _ _ _ (by simpa using hi)]; rfl
   ·have hc : (AV x2.s 5 == 0) = true := hc
    have ez : cG a x2 = ⟨AS (AS x2.s 5) 400, x2.pl, wr (x2.tm + AV (AS x2.s 5) 400), x2.ms, x2.t, x2.st, x2.z ++ [wr ((x2.ms.length : Int) - 1)]⟩ := by
     unfold cG; rw [hb, hc]; rfl
    rw [ez] at q1; exact q1
   ·show 9 + 7 * (a.m - (k2 : Int)) + 1 + 1 <= 11 + 7 * (a.m - (k2 : Int)); omega
   ·show (x2.z ++ [_]).length <= x2.ms.length; simp; omega
   ·show k2 <= k; omega
   ·show 0 < (x2.z ++ [_]).length; simp
   ·have hc : (AV x2.s 5 == 0) = false := hc
    have ez : cG a x2 = ⟨AS x2.s 5, x2.pl, x2.tm, x2.ms, x2.t, x2.st, x2.z⟩ := by
     unfold cG; rw [hb, hc]; rfl
    rw [ez] at q1; exact q1
   ·show 9 + 7 * (a.m - (k2 : Int)) + 1 <= 11 + 7 * (a.m - (k2 : Int)); omega
  ·rintro ⟨k2, x2⟩ ⟨⟨q1, q2, q3, q4, q5, q6, q7⟩, p0, p1, p2⟩
   dsimp only at q1 q2 q3 q4 q5 q6 q7 p0 p1 p2 ⊢
   have s2 := q3.next (by omega) 60
   refine ⟨⟨rfl, q3.used.1⟩, ⟨⟨Nat.one_pos, (λ h => by cases h), by omega, by omega⟩, ⟨Nat.one_pos, (λ h => by cases h), by omega, by omega⟩, s2.used.1, Nat.one_pos, (λ h => by cases h), by omega, by omega⟩, ⟨k2 - 1, Wr a x2⟩, ⟨rfl, rfl, ?_, rfl, λ _ _ => rfl, rfl, rfl, ?_, ?_, ?_, rfl, ?_, λ i hi => ?_, ?_, λ i hi => ?_, ?_, λ i hi => ?_, rfl, λ _ _ => rfl⟩, ⟨⟨q1, by show ((k2 - 1 : Nat) : Int) <= _; omega, (IB s2 (by omega) _ _).mono ?_, ?_, ?_, ?_, .inr ?_⟩, ?_, p2⟩, by show k2 - 1 < k; omega⟩
   ·rw [PE (by omega) (by omega)]; show ((k2 - 1 : Nat) : Int) = _; omega
   ·show (x2.ms ++ [_]).length = _; simp
   ·show (x2.t ++ [_]).length = _; simp
   ·show (x2.st ++ [_]).length = _; simp
   ·show (x2.ms ++ [_]).length = _; simp
   ·have hi : i < (x2.ms ++ [_]).length := hi
    rw [List.length_append] at hi
    show (gD (x2.ms ++ [_]) i).pl = _ /\ (gD (x2.ms ++ [_]) i).ht = _
    rw [KK _ _ _ (by simpa using hi)]
    cases decide (i < x2.ms.length) <;> exact ⟨rfl, rfl⟩
   ·show (x2.t ++ [_]).length = _; simp
   ·have hi : i < (x2.t ++ [x2.tm]).length := hi
    rw [List.length_append] at hi
    show gD (x2.t ++ [_]) i = _
    rw [KK _ _ _ (by simpa using hi)]
   ·show (x2.st ++ [_]).length = _; simp
   ·have hi : i < (x2.st ++ [(0 : Int)]).length := by have := hi; simpa [Wr] using this
    rw [List.length_append] at hi
    show gD (x2.st ++ [_]) i = _
    rw [KK _ _ _ (by simpa using hi)]; rfl
   ·show 11 + 7 * (a.m - (k2 : Int)) + 1 + 1 <= 7 + 7 * (a.m - ((k2 - 1 : Nat) : Int)); omega
   ·show (((x2.ms ++ [_]).length : Nat) : Int) + ((k2 - 1 : Nat) : Int) <= a.m
    rw [List.length_append]; simp; omega
   ·show (x2.t ++ [_]).length = (x2.ms ++ [_]).length; simp [q5]
   ·show (x2.st ++ [_]).length = (x2.ms ++ [_]).length; simp [q6]
   ·show x2.z.length < (x2.ms ++ [_]).length; simp; omega
   ·show 0 < (x2.ms ++ [_]).length; simp
  ·obtain rfl : k = 0 := by omega
   have e : x = mS a := i1
   subst e
   exact ⟨default, ⟨rfl, λ _ _ => rfl, rfl, rfl, rfl, Nat.le_refl _, λ _ _ => ⟨rfl, rfl⟩, rfl, Nat.le_refl _, λ _ _ => rfl, rfl, Nat.le_refl _, λ _ _ => rfl, rfl, Nat.le_refl _, λ _ _ => rfl⟩, i1, i2, i3, i4, i5, i6, i7⟩
 ·intro hF'
  obtain ⟨f1, f2, f3, f4, f5, f6, f7⟩ := hF'
  have hF' : fin6 a := ⟨f1, f2, f3, f4, f5, f6, f7⟩
  have fm : ((mS a).ms.length : Int) <= a.m := by omega
  refine ⟨⟨⟨⟨0, ⟨(mS a).s, []⟩⟩, ⟨rfl, rfl, λ _ _ => rfl, rfl, rfl⟩, ⟨hF', Nat.zero_le _, f3.mono (by show 7 + 7 * (a.m - ((0 : Nat) : Int)) <= 7 + 7 * a.m + 5 * ((0 : Nat) : Int); omega), rfl, Nat.le_refl _⟩, rfl⟩, ?_, ?_⟩, ?_, ?_⟩
  ·rintro ⟨i, x⟩ ⟨⟨_, g1, g2, g3, g4⟩, g5⟩
   dsimp only at g1 g2 g3 g4 g5 ⊢
   have s1 := g2.next (by omega) 2
   refine ⟨λ hc => ?_, λ hc => ?_⟩
   ·have hi := n_lt hc
    refine ⟨⟨⟨⟨rfl, g2.used.1⟩, ⟨i, ⟨AS x.s 2, x.ns⟩, AV x.s 2 == 0⟩, ⟨rfl, rfl, rfl, λ _ _ => rfl, rfl, rfl⟩, ⟨hF', ⟨hi, rfl⟩, s1.mono (by show 7 + 7 * a.m + 5 * (i : Int) + 1 <= 8 + 7 * a.m + 5 * (i : Int); omega), (BPC hi).symm.trans g3, g4⟩, g5⟩, ?_⟩, ?_, ?_⟩
    ·rintro ⟨i2, x2, b2⟩ ⟨⟨_, ⟨q1, q2⟩, q3, q4, q5⟩, q6⟩
     dsimp only at q1 q2 q3 q4 q5 q6 ⊢
     have t1 := q3.next (by omega) 40
     have t2 := t1.next (by omega) 40
     have t3 := t2.next (by omega) 9
     have t4 := t3.next (by omega) 9
     refine ⟨λ hb2 => ?_, λ hb2 => ?_⟩
     ·subst hb2
      refine ⟨⟨⟨by omega, by omega⟩, rfl, q3.used.1, ⟨by omega, by omega⟩, rfl, t1.used.1, ⟨by omega, by omega⟩, rfl, t2.used.1, ⟨by omega, by omega⟩, rfl, t3.used.1, by decide⟩, ⟨i2, ⟨nS5 x2.s, x2.ns ++ [mkNt a x2.s i2]⟩⟩, ⟨rfl, rfl, λ _ _ => rfl, rfl, rfl, by rw [q6]; rfl, by rw [q6]; rfl, λ j hj => ?_⟩, ⟨hF', ⟨q1, q2⟩, t4.mono (by show 8 + 7 * a.m + 5 * (i2 : Int) + 1 + 1 + 1 + 1 <= 12 + 7 * a.m + 5 * (i2 : Int); omega), q4, ?_⟩, ?_⟩
      ·rw [q6] at hj ⊢
       have hj : j < 1 := hj
       obtain rfl : j = 0 := by omega
       exact ⟨rfl, rfl, rfl, rfl, rfl⟩
      ·show (x2.ns ++ [_]).length <= i2 + 1; rw [q6]; simp
      ·show 0 < (x2.ns ++ [_]).length; simp
     ·subst hb2
      exact ⟨⟨i2, x2⟩, ⟨rfl, rfl, λ _ _ => rfl, rfl, rfl⟩, ⟨hF', ⟨q1, q2⟩, q3.mono (by show 8 + 7 * a.m + 5 * (i2 : Int) <= 12 + 7 * a.m + 5 * (i2 : Int); omega), q4, Nat.le_succ_of_le q5⟩, q6⟩
    ·rintro ⟨i2, x2⟩ ⟨⟨_, ⟨q1, q2⟩, q3, q4, q5⟩, q6⟩
     dsimp only at q1 q2 q3 q4 q5 q6 ⊢
     exact ⟨⟨i2 + 1, x2⟩, ⟨(HH (by omega)).symm, rfl, λ _ _ => rfl, rfl, rfl⟩, ⟨⟨hF', by show i2 + 1 <= _; omega, q3.mono (by show 12 + 7 * a.m + 5 * (i2 : Int) <= 7 + 7 * a.m + 5 * ((i2 + 1 : Nat) : Int); omega), q4, q5⟩, q6⟩, by show 100 - (i2 + 1) < 100 - i; omega⟩
    ·rintro ⟨i2, x2⟩ ⟨⟨_, ⟨q1, q2⟩, q3, q4, q5⟩, q6⟩
     dsimp only at q1 q2 q3 q4 q5 q6 ⊢
     exact ⟨⟨i2 + 1, x2⟩, ⟨(HH (by omega)).symm, rfl, λ _ _ => rfl, rfl, rfl, rfl, rfl, λ _ _ => ⟨rfl, rfl, rfl, rfl, rfl⟩⟩, ⟨⟨hF', by show i2 + 1 <= _; omega, q3.mono (by show 12 + 7 * a.m + 5 * (i2 : Int) <= 7 + 7 * a.m + 5 * ((i2 + 1 : Nat) : Int); omega), q4, q5⟩, q6⟩, by show 100 - (i2 + 1) < 100 - i; omega⟩
   ·have hi := n_ge (by decide) hc
    obtain rfl : i = (mS a).ms.length := by omega
    rw [Nat.sub_self] at g3
    have e : x = PT a := g3
    subst e
    exact ⟨default, ⟨rfl, λ _ _ => rfl, rfl, rfl⟩, hF', g5⟩
  ·rintro ⟨i, x⟩ ⟨⟨_, g1, g2, g3, g4⟩, g5⟩
   dsimp only at g1 g2 g3 g4 g5 ⊢
   have s1 := g2.next (by omega) 2
   refine ⟨λ hc => ?_, λ hc => ?_⟩
   ·have hi := n_lt hc
    refine ⟨⟨⟨⟨rfl, g2.used.1⟩, ⟨i, ⟨AS x.s 2, x.ns⟩, AV x.s 2 == 0⟩, ⟨rfl, rfl, rfl, λ _ _ => rfl, rfl, rfl, rfl, rfl, λ _ _ => ⟨rfl, rfl, rfl, rfl, rfl⟩⟩, ⟨hF', ⟨hi, rfl⟩, s1.mono (by show 7 + 7 * a.m + 5 * (i : Int) + 1 <= 8 + 7 * a.m + 5 * (i : Int); omega), (BPC hi).symm.trans g3, g4⟩, g5⟩, ?_⟩, ?_⟩
    ·rintro ⟨i2, x2, b2⟩ ⟨⟨_, ⟨q1, q2⟩, q3, q4, q5⟩, q6⟩
     dsimp only at q1 q2 q3 q4 q5 q6 ⊢
     have t1 := q3.next (by omega) 40
     have t2 := t1.next (by omega) 40
     have t3 := t2.next (by omega) 9
     have t4 := t3.next (by omega) 9
     refine ⟨λ hb2 => ?_, λ hb2 => ?_⟩
     ·subst hb2
      refine ⟨⟨⟨by omega, by omega⟩, rfl, q3.used.1, ⟨by omega, by omega⟩, rfl, t1.used.1, ⟨by omega, by omega⟩, rfl, t2.used.1, ⟨by omega, by omega⟩, rfl, t3.used.1, Nat.one_pos, (λ h => by cases h), by omega, by omega⟩, ⟨i2, ⟨nS5 x2.s, x2.ns ++ [mkNt a x2.s i2]⟩⟩, ⟨rfl, rfl, λ _ _ => rfl, rfl, rfl, by simp, by simp, λ j hj => ?_⟩, ⟨hF', ⟨q1, q2⟩, t4.mono (by show 8 + 7 * a.m + 5 * (i2 : Int) + 1 + 1 + 1 + 1 <= 12 + 7 * a.m + 5 * (i2 : Int); omega), q4, ?_⟩, ?_⟩
      ·have hj : j < (x2.ns ++ [mkNt a x2.s i2]).length := hj
       rw [List.length_append] at hj
       show (gD (x2.ns ++ [_]) j).mi = _ /\ (gD (x2.ns ++ [_]) j).t.lo = _ /\ (gD (x2.ns ++ [_]) j).t.hi = _ /\ (gD (x2.ns ++ [_]) j).s.lo = _ /\ (gD (x2.ns ++ [_]) j).s.hi = _
       rw [KK _ _ _ (by simpa using hj)]
       cases decide (j < x2.ns.length) <;> exact ⟨rfl, rfl, rfl, rfl, rfl⟩
      ·show (x2.ns ++ [_]).length <= i2 + 1; simp; omega
      ·show 0 < (x2.ns ++ [_]).length; simp
     ·subst hb2
      exact ⟨⟨i2, x2⟩, ⟨rfl, rfl, λ _ _ => rfl, rfl, rfl, rfl, rfl, λ _ _ => ⟨rfl, rfl, rfl, rfl, rfl⟩⟩, ⟨hF', ⟨q1, q2⟩, q3.mono (by show 8 + 7 * a.m + 5 * (i2 : Int) <= 12 + 7 * a.m + 5 * (i2 : Int); omega), q4, Nat.le_succ_of_le q5⟩, q6⟩
    ·rintro ⟨i2, x2⟩ ⟨⟨_, ⟨q1, q2⟩, q3, q4, q5⟩, q6⟩
     dsimp only at q1 q2 q3 q4 q5 q6 ⊢
     exact ⟨⟨i2 + 1, x2⟩, ⟨(HH (by omega)).symm, rfl, λ _ _ => rfl, rfl, rfl, rfl, rfl, λ _ _ => ⟨rfl, rfl, rfl, rfl, rfl⟩⟩, ⟨⟨hF', by show i2 + 1 <= _; omega, q3.mono (by show 12 + 7 * a.m + 5 * (i2 : Int) <= 7 + 7 * a.m + 5 * ((i2 + 1 : Nat) : Int); omega), q4, q5⟩, q6⟩, by show 100 - (i2 + 1) < 100 - i; omega⟩
   ·have hi := n_ge (by omega) hc
    obtain rfl : i = (mS a).ms.length := by omega
    rw [Nat.sub_self] at g3
    have e : x = PT a := g3
    subst e
    exact ⟨default, ⟨rfl, λ _ _ => rfl, rfl, rfl, rfl, rfl, λ _ _ => ⟨rfl, rfl, rfl, rfl, rfl⟩⟩, hF', g2.mono (by omega), g5, by omega⟩
  ·rintro ⟨_, e0⟩
   have em : mE a = PT a := by unfold mE; rw [e0]; rfl
   have en : (mE a).ns = [] := by rw [em]; exact e0
   have el : (RK a).ns.length = 0 := by show (mE a).ns.length = 0; rw [en]; rfl
   refine ⟨⟨default, ⟨by rw [em], λ _ _ => by rw [em], by rw [em], by rw [em]⟩, en⟩, λ _ => ⟨rfl, rfl, rfl, rfl, rfl, rfl, λ _ _ => ⟨rfl, rfl⟩, el, el, rfl, λ _ _ => rfl, rfl, λ _ _ => rfl, rfl, λ _ _ => rfl⟩⟩
  ·rintro ⟨_, e1, e2, e3⟩
   refine ⟨⟨⟨(PT a).ns.length - 1, PT a⟩, ⟨?_, rfl, λ _ _ => rfl, rfl, rfl, rfl, rfl, λ _ _ => ⟨rfl, rfl, rfl, rfl, rfl⟩⟩, hF', by show (PT a).ns.length - 1 < (PT a).ns.length; omega, e1.mono ?_, rfl, e3⟩, ?_⟩
   ·rw [PE (by omega) (by omega)]; show (((PT a).ns.length - 1 : Nat) : Int) = _; omega
   ·show 7 + 7 * a.m + 5 * a.m <= 7 + 7 * a.m + 5 * a.m + a.m - (((PT a).ns.length - 1 : Nat) : Int); omega
   ·rintro ⟨i, x⟩ ⟨_, r1, r2, r3, r4⟩
    dsimp only at r1 r2 r3 r4 ⊢
    refine ⟨λ hi => ?_, λ hi => ?_⟩
    ·obtain ⟨j, rfl⟩ : ∃ j, i = j + 1 := ⟨i - 1, by omega⟩
     have ew : IntKind.i64.wrap (((j + 1 : Nat) : Int) + 1) = (j : Int) + 2 := by rw [PE (by omega) (by omega)]; omega
     have ew2 : IntKind.i64.wrap (((j + 1 : Nat) : Int) - 1) = (j : Int) := by rw [PE (by omega) (by omega)]; omega
     have hv := LS r2 (by omega) ((j : Int) + 2)
     have hv2 := hv.2 (by omega)
     rw [ew, ew2]
     have hk : (AV x.s ((j : Int) + 2)).toNat < x.ns.length := by omega
     refine ⟨r2.used.1, ⟨⟨hv.1, by omega⟩, hk, ⟨by omega, by omega⟩, r1, ⟨by omega, by omega⟩, r1, ⟨hv.1, by omega⟩, hk⟩, ⟨j, ⟨AS x.s ((j : Int) + 2), swN x.ns (j + 1) (AV x.s ((j : Int) + 2)).toNat⟩⟩, ⟨rfl, rfl, λ _ _ => rfl, rfl, rfl, Fv _ _ _, Fv _ _ _, λ t ht => ?_⟩, ⟨hF', ?_, (r2.next (by omega) _).mono ?_, r3, ?_⟩, Nat.lt_succ_self _⟩
     ·have e := BMY (l := x.ns) (i := j + 1) (k := (AV x.s ((j : Int) + 2)).toNat) r1 hk (t := t)
      show (gD (swN x.ns (j + 1) _) t).mi = _ /\ (gD (swN x.ns (j + 1) _) t).t.lo = _ /\ (gD (swN x.ns (j + 1) _) t).t.hi = _ /\ (gD (swN x.ns (j + 1) _) t).s.lo = _ /\ (gD (swN x.ns (j + 1) _) t).s.hi = _
      rw [e]
      cases decide (t = (AV x.s ((j : Int) + 2)).toNat) <;> cases decide (t = j + 1) <;> exact ⟨rfl, rfl, rfl, rfl, rfl⟩
     ·show j < (swN x.ns _ _).length; rw [Fv]; omega
     ·show 7 + 7 * a.m + 5 * a.m + a.m - ((j + 1 : Nat) : Int) + 1 <= 7 + 7 * a.m + 5 * a.m + a.m - (j : Int); omega
     ·show ((swN x.ns _ _).length : Int) <= _; rw [Fv]; exact r4
    ·obtain rfl : i = 0 := by omega
     have e : x = mE a := r3
     subst e
     exact ⟨rfl, rfl, rfl, rfl, rfl, rfl, λ _ _ => ⟨rfl, rfl⟩, rfl, Nat.le_refl _, λ _ _ => ⟨rfl, rfl, rfl, rfl, rfl⟩, rfl, λ _ _ => rfl, rfl, λ _ _ => rfl, rfl, λ _ _ => rfl, rfl, λ _ _ => rfl, rfl, rfl⟩
theorem BXL : AR Try.prog BHA ((lE true).spec (dMkI true)) := Jp (lE true) (BHE true) [] [305] BQB (λ _ => by kernel_rfl) (λ _ => AC AFF (AC BDR AL)) (λ (a : MkI) h => CBX a (show wO a /\ a.b = true from h).1 (show wO a /\ a.b = true from h).2) (λ _ => Mi rfl rfl) _
end Go.Bal
