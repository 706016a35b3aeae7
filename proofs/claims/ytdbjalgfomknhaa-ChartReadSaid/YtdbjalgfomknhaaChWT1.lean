/- Package chart: charts that are made of numbers, with stops. -/
import Derived.Test.YtdbjalgfomknhaaChWT
import Derived.Test.YtdbjalgfomknhaaChT4
set_option linter.unusedVariables false
set_option linter.unusedSimpArgs false
namespace Go.Bal
open Go Go.Sym Go.Proofs
set_option maxHeartbeats 4000000 in
theorem BIS (a : MkI) (h : preM a) (hb : a.b = true) : AWW a := by
 obtain ⟨b1, b2, b3, b4, b5, b6⟩ := ANP h
 obtain ⟨n1, n2, n3⟩ := BFW h
 have m2 := h.2.2
 rw [BIH]; delta uW R7 vF AAC N7 AAJ uP T9 AAN AAD cC E5 Qs gM yC eR xR B6 zS dC xX Rq eN Ir xT eJ xO A8 E7 cF zN Sc gO zW eO xQ AD AA AB dO dR zZ E2 gE F1 cT yH zU fF xM fA eV B5 E3 dV yD Bp D2 dE cS dM gG Rr yZ fC A7 F0 yT bU RO cV cZ dN gN C0 zG So E1 eY B8 fY Tj gB eK Ji xN zF eE eX Qv Sg cW Br eS A0 Sj A1 Tg D7 bS nW rD rS Ws iY lJ jD Mo jV Wi pY qT Ux iM Vh jL Wc Vz Vm Vs lC qQ mP rY mG sC Us UH Ts Uv Ui Tn mT qP pS lR kU NH lF oH Vg Mz Lz Wp qO qS mQ Ur mK Lx Tz iZ rP lI kO Uc jM rK jU sH kI QY RC RB Ls Mn Ml Uj nX mZ pR mX lA Vv iF Un Wd Vx iJ De Lo nK rE jF Tw rO sS sF iL kW pI pT Tx nT lD iV oF qU Uy Dw Vr Tp Tt Uf Mc Mi Lh rL nR kY qC Wr lG kB Wl kJ qA Do sX jB jI sU nG lW lN nU Uh kF lO oN Mr qM YG OX PC PA OS OR OZ OV OT YM Vw jN oC oK Uu sV Wj oY kD oX sR Mx kQ Ue mC nF pX tA lY Dp pC jQ pO qN Mw Lt Vd jX oR nL lM rJ lE nV Vf sT rT rH Uw lH sW pW Ln mU Ub jA rM Lp qL Ug sO rN iO Vj iI lP pH Mf oA Ve pK iR sD Ut jC kV kK Ty qX jT iD Mb kT Wg kP sM nO sP Me nM Uz jY kA nJ pP oG oJ lB sK jO qG Uq kC oI Lr nH oW nE iE jK Dz iP pV jP rX kN iG Mu nN Up pL mV qH kM oZ jS pU Wo oE Dh rV mJ jH kZ Tv nY nS rR nD kS qD oT oD mW lQ To Wf rW Mq kR Tq nI Vo sB Dj Uk Dm Vq qR qV sI kX Wn qK rA rG; simp only [CC, eq_self, implies_true, forall_const, BME]
 refine ⟨⟨⟨rfl, rfl, h.1.used.1, rfl, rfl, b1.used.1, rfl, b2.used.1, rfl, b3.used.1⟩, default, ⟨rfl, λ _ _ => rfl, rfl, rfl, rfl, rfl, rfl, rfl⟩, b4⟩, λ _ => ⟨⟨⟨rfl, b4.used.1⟩, default, ⟨rfl, λ _ _ => rfl, rfl, rfl, rfl⟩, b5⟩, λ _ => ⟨⟨⟨rfl, b5.used.1⟩, default, ⟨rfl, rfl, λ _ _ => rfl, rfl, rfl⟩, b6⟩, λ _ => ⟨⟨⟨rfl, b6.used.1⟩, ⟨⟨mN a, mS0 a⟩, ⟨rfl, rfl, n1, rfl, λ _ _ => rfl, rfl, rfl⟩, ⟨rfl, n3, ?_, ?_, rfl, rfl, .inl rfl⟩, n2, rfl, rfl⟩, ?_, ?_, ?_⟩, ?_⟩⟩⟩⟩
 ·exact (PR b6 (by omega) 1 a.m).mono (by show 6 + 1 <= 7 + 7 * (a.m - (mN a : Int)); omega)
 ·show (((0 : Nat) : Int)) + (mN a : Int) <= a.m; omega
 ·rintro ⟨k, s, pl, tm, ms, t, st, z⟩ ⟨⟨i1, i2, i3, i4, i5, i6, i7⟩, j1, j2, j3⟩
  dsimp only at i1 i2 i3 i4 i5 i6 i7 j1 j2 j3 ⊢
  subst j2 j3
  obtain rfl : t = [] := List.length_eq_zero_iff.1 i5
  obtain rfl : st = [] := List.length_eq_zero_iff.1 i6
  refine ⟨λ _ => ⟨⟨⟨k, s, pl, tm, [], [], [], []⟩, ⟨rfl, rfl, rfl, rfl, λ _ _ => rfl, rfl, rfl⟩, ⟨?_, ⟨j1, i2⟩, i3.mono (by show 7 + 7 * (a.m - (k : Int)) <= 11 + 7 * (a.m - (k : Int)); omega), i4, rfl, rfl, Nat.le_refl _⟩, rfl, rfl⟩, ?_⟩, λ hk => absurd (show (k : Int) > 0 by omega) hk⟩
  ·rw [<- i1, ARZ j1, go_0 rfl]
  ·rintro ⟨k, s, pl, tm, ms, t, st, z⟩ ⟨⟨q1, q2, q3, q4, q5, q6, q7⟩, p1, p2⟩
   dsimp only at q1 q2 q3 q4 q5 q6 q7 p1 p2 ⊢
   subst p1 p2
   obtain rfl : t = [] := List.length_eq_zero_iff.1 q5
   obtain rfl : st = [] := List.length_eq_zero_iff.1 q6
   have s1 := q3.next (by omega) 60
   refine ⟨⟨rfl, q3.used.1⟩, ⟨by decide, by decide, s1.used.1, by decide⟩, ⟨k - 1, zL a ⟨s, pl, tm, [], [], [], []⟩⟩, ⟨rfl, rfl, ?_, rfl, λ _ _ => rfl, rfl, rfl, rfl, rfl, rfl, rfl, λ i hi => ?_, rfl, λ i hi => ?_, rfl, λ i hi => ?_⟩, ⟨⟨q1, by show ((k - 1 : Nat) : Int) <= _; omega, (PR s1 (by omega) _ _).mono ?_, ?_, rfl, rfl, .inl rfl⟩, Nat.one_pos, rfl⟩, by show k - 1 + 20 < 100; omega⟩
   ·rw [NU (by omega) (by omega)]; show ((k - 1 : Nat) : Int) = _; omega
   ·have hi : i < 1 := hi
    obtain rfl : i = 0 := by omega
    exact ⟨rfl, rfl⟩
   ·have hi : i < 1 := hi
    obtain rfl : i = 0 := by omega
    rfl
   ·have hi : i < 1 := hi
    obtain rfl : i = 0 := by omega
    rfl
   ·show 11 + 7 * (a.m - (k : Int)) + 1 + 1 <= 7 + 7 * (a.m - ((k - 1 : Nat) : Int)); omega
   ·show ((1 : Nat) : Int) + ((k - 1 : Nat) : Int) <= a.m; omega
 ·rintro ⟨k, x⟩ ⟨⟨i1, i2, i3, i4, i5, i6, i7⟩, j1, j2⟩
  dsimp only at i1 i2 i3 i4 i5 i6 i7 j1 j2 ⊢
  have s1 := PR i3 (by omega) 1 30
  refine ⟨λ hk => ⟨⟨λ hm => ⟨⟨rfl, rfl, i3.used.1⟩, ⟨s1.used.1, ⟨k, advA a x⟩, ⟨rfl, rfl, rfl, rfl, λ _ _ => rfl, rfl, rfl, rfl, rfl, rfl, rfl, λ _ _ => ⟨rfl, rfl⟩, rfl, λ _ _ => rfl, rfl, λ _ _ => rfl⟩, ⟨?_, ⟨by show 0 < k; omega, i2⟩, (PR s1 (by omega) _ _).mono ?_, i4, i5, i6, ?_⟩, by show k + 19 < k + 20; omega, j1, j2⟩, ?_⟩, λ hm => absurd (show (x.ms.length : Int) > 0 by omega) hm⟩, ?_, ?_⟩, λ hk => ?_⟩
  ·exact (show _ = dD a k x by rw [ARZ (k := k) (x := x) (by omega), go_1 j1]).trans i1
  ·show 7 + 7 * (a.m - (k : Int)) + 1 + 1 <= 9 + 7 * (a.m - (k : Int)); omega
  ·show x.z.length < x.ms.length; rw [j2]; exact j1
  ·rintro ⟨k2, x2⟩ ⟨⟨q1, q2, q3, q4, q5, q6, q7⟩, p0, p1, p2⟩
   dsimp only at q1 q2 q3 q4 q5 q6 q7 p0 p1 p2 ⊢
   have t1 := q3.next (by omega) 5
   have t2 := t1.next (by omega) 400
   refine ⟨⟨rfl, q3.used.1⟩, λ hc => ⟨⟨(λ h => by cases h), Nat.one_pos, Nat.one_pos, by decide, by decide⟩, ⟨rfl, t1.used.1⟩, ⟨k2, ⟨CP (CP x2.s 5) 400, x2.pl, wr (x2.tm + BZ (CP x2.s 5) 400), x2.ms, x2.t, x2.st, [wr ((x2.ms.length : Int) - 1)]⟩⟩, ⟨rfl, rfl, rfl, rfl, λ _ _ => rfl, rfl, rfl, rfl, rfl, rfl, rfl, rfl, λ _ _ => ⟨rfl, rfl⟩, rfl, λ _ _ => rfl, rfl, λ _ _ => rfl, rfl, λ i hi => ?_⟩, ⟨?_, q2, t2.mono ?_, q4, q5, q6, ?_⟩, ?_, p1, Nat.one_pos⟩, λ hc => ⟨⟨k2, ⟨CP x2.s 5, x2.pl, x2.tm, x2.ms, x2.t, x2.st, x2.z⟩⟩, ⟨rfl, rfl, rfl, rfl, λ _ _ => rfl, rfl, rfl, rfl, rfl, rfl, rfl, λ _ _ => ⟨rfl, rfl⟩, rfl, λ _ _ => rfl, rfl, λ _ _ => rfl⟩, ⟨?_, q2, t1.mono ?_, q4, q5, q6, Nat.le_of_lt q7⟩, p0, p1, p2⟩⟩
   ·have hi : i < 1 := hi
    obtain rfl : i = 0 := by omega
    rfl
   ·have hc : (BZ x2.s 5 == 0) = true := hc
    have ez : advZ a x2 = ⟨CP (CP x2.s 5) 400, x2.pl, wr (x2.tm + BZ (CP x2.s 5) 400), x2.ms, x2.t, x2.st, [wr ((x2.ms.length : Int) - 1)]⟩ := by
     unfold advZ; rw [hb, hc, p2]; rfl
    rw [ez] at q1; exact q1
   ·show 9 + 7 * (a.m - (k2 : Int)) + 1 + 1 <= 11 + 7 * (a.m - (k2 : Int)); omega
   ·show 1 <= x2.ms.length; exact p1
   ·show k2 <= k + 20; omega
   ·have hc : (BZ x2.s 5 == 0) = false := hc
    have ez : advZ a x2 = ⟨CP x2.s 5, x2.pl, x2.tm, x2.ms, x2.t, x2.st, x2.z⟩ := by
     unfold advZ; rw [hb, hc]; rfl
    rw [ez] at q1; exact q1
   ·show 9 + 7 * (a.m - (k2 : Int)) + 1 <= 11 + 7 * (a.m - (k2 : Int)); omega
  ·rintro ⟨k2, x2⟩ ⟨⟨q1, q2, q3, q4, q5, q6, q7⟩, p0, p1, p2⟩
   dsimp only at q1 q2 q3 q4 q5 q6 q7 p0 p1 p2 ⊢
   have s2 := q3.next (by omega) 60
   refine ⟨⟨rfl, q3.used.1⟩, ⟨⟨Nat.one_pos, (λ h => by cases h), by omega, by omega⟩, ⟨Nat.one_pos, (λ h => by cases h), by omega, by omega⟩, s2.used.1, Nat.one_pos, (λ h => by cases h), by omega, by omega⟩, ⟨k2 - 1, zL a x2⟩, ⟨rfl, rfl, ?_, rfl, λ _ _ => rfl, rfl, rfl, ?_, ?_, ?_, ?_, λ i hi => ?_, ?_, λ i hi => ?_, ?_, λ i hi => ?_⟩, ⟨⟨q1, by show ((k2 - 1 : Nat) : Int) <= _; omega, (PR s2 (by omega) _ _).mono ?_, ?_, ?_, ?_, .inl p2⟩, ?_, p2⟩, by show k2 - 1 + 20 < k + 20; omega⟩
   ·rw [NU (by omega) (by omega)]; show ((k2 - 1 : Nat) : Int) = _; omega
   ·show (x2.ms ++ [_]).length = _; simp
   ·show (x2.t ++ [_]).length = _; simp
   ·show (x2.st ++ [_]).length = _; simp
   ·show (x2.ms ++ [_]).length = _; simp
   ·have hi : i < (x2.ms ++ [_]).length := hi
    rw [List.length_append] at hi
    show (gD (x2.ms ++ [_]) i).pl = _ /\ (gD (x2.ms ++ [_]) i).ht = _
    rw [ZD _ _ _ (by simpa using hi)]
    cases decide (i < x2.ms.length) <;> exact ⟨rfl, rfl⟩
   ·show (x2.t ++ [_]).length = _; simp
   ·have hi : i < (x2.t ++ [x2.tm]).length := hi
    rw [List.length_append] at hi
    show gD (x2.t ++ [_]) i = _
    rw [ZD _ _ _ (by simpa using hi)]
   ·show (x2.st ++ [_]).length = _; simp
   ·have hi : i < (x2.st ++ [(0 : Int)]).length := by have := hi; simpa [zL] using this
    rw [List.length_append] at hi
    show gD (x2.st ++ [_]) i = _
    rw [ZD _ _ _ (by simpa using hi)]; rfl
   ·show 11 + 7 * (a.m - (k2 : Int)) + 1 + 1 <= 7 + 7 * (a.m - ((k2 - 1 : Nat) : Int)); omega
   ·show (((x2.ms ++ [_]).length : Nat) : Int) + ((k2 - 1 : Nat) : Int) <= a.m
    rw [List.length_append]; simp; omega
   ·show (x2.t ++ [_]).length = (x2.ms ++ [_]).length; simp [q5]
   ·show (x2.st ++ [_]).length = (x2.ms ++ [_]).length; simp [q6]
   ·show 0 < (x2.ms ++ [_]).length; simp
  ·rintro ⟨k2, x2⟩ ⟨⟨q1, q2, q3, q4, q5, q6, q7⟩, p0, p1, p2⟩
   dsimp only at q1 q2 q3 q4 q5 q6 q7 p0 p1 p2 ⊢
   have s2 := q3.next (by omega) 60
   refine ⟨⟨rfl, q3.used.1⟩, ⟨⟨Nat.one_pos, (λ h => by cases h), by omega, by omega⟩, ⟨Nat.one_pos, (λ h => by cases h), by omega, by omega⟩, s2.used.1, Nat.one_pos, (λ h => by cases h), by omega, by omega⟩, ⟨k2 - 1, zL a x2⟩, ⟨rfl, rfl, ?_, rfl, λ _ _ => rfl, rfl, rfl, ?_, ?_, ?_, rfl, ?_, λ i hi => ?_, ?_, λ i hi => ?_, ?_, λ i hi => ?_, rfl, λ _ _ => rfl⟩, ⟨⟨q1, by show ((k2 - 1 : Nat) : Int) <= _; omega, (PR s2 (by omega) _ _).mono ?_, ?_, ?_, ?_, .inr ?_⟩, ?_, p2⟩, by show k2 - 1 < k + 20; omega⟩
   ·rw [NU (by omega) (by omega)]; show ((k2 - 1 : Nat) : Int) = _; omega
   ·show (x2.ms ++ [_]).length = _; simp
   ·show (x2.t ++ [_]).length = _; simp
   ·show (x2.st ++ [_]).length = _; simp
   ·show (x2.ms ++ [_]).length = _; simp
   ·have hi : i < (x2.ms ++ [_]).length := hi
    rw [List.length_append] at hi
    show (gD (x2.ms ++ [_]) i).pl = _ /\ (gD (x2.ms ++ [_]) i).ht = _
    rw [ZD _ _ _ (by simpa using hi)]
    cases decide (i < x2.ms.length) <;> exact ⟨rfl, rfl⟩
   ·show (x2.t ++ [_]).length = _; simp
   ·have hi : i < (x2.t ++ [x2.tm]).length := hi
    rw [List.length_append] at hi
    show gD (x2.t ++ [_]) i = _
    rw [ZD _ _ _ (by simpa using hi)]
   ·show (x2.st ++ [_]).length = _; simp
   ·have hi : i < (x2.st ++ [(0 : Int)]).length := by have := hi; simpa [zL] using this
    rw [List.length_append] at hi
    show gD (x2.st ++ [_]) i = _
    rw [ZD _ _ _ (by simpa using hi)]; rfl
   ·show 11 + 7 * (a.m - (k2 : Int)) + 1 + 1 <= 7 + 7 * (a.m - ((k2 - 1 : Nat) : Int)); omega
   ·show (((x2.ms ++ [_]).length : Nat) : Int) + ((k2 - 1 : Nat) : Int) <= a.m
    rw [List.length_append]; simp; omega
   ·show (x2.t ++ [_]).length = (x2.ms ++ [_]).length; simp [q5]
   ·show (x2.st ++ [_]).length = (x2.ms ++ [_]).length; simp [q6]
   ·show x2.z.length < (x2.ms ++ [_]).length; simp; omega
   ·show 0 < (x2.ms ++ [_]).length; simp
  ·obtain rfl : k = 0 := by omega
   have e : x = mS a := i1
   subst e
   exact ⟨default, ⟨rfl, λ _ _ => rfl, rfl, rfl, rfl, Nat.le_refl _, λ _ _ => ⟨rfl, rfl⟩, rfl, Nat.le_refl _, λ _ _ => rfl, rfl, Nat.le_refl _, λ _ _ => rfl, by rw [j2]; rfl⟩, i1, i2, i3, i4, i5, i6, i7⟩
 ·rintro ⟨k, x⟩ ⟨⟨i1, i2, i3, i4, i5, i6, i7⟩, j1, j2⟩
  dsimp only at i1 i2 i3 i4 i5 i6 i7 j1 j2 ⊢
  have s1 := PR i3 (by omega) 1 30
  have i8 : x.z.length < x.ms.length := i7.elim (λ e => by rw [e] at j2; exact absurd j2 (Nat.lt_irrefl 0)) id
  refine ⟨λ hk => ⟨⟨λ hm => ⟨⟨rfl, rfl, i3.used.1⟩, ⟨s1.used.1, ⟨k, advA a x⟩, ⟨rfl, rfl, rfl, rfl, λ _ _ => rfl, rfl, rfl, rfl, rfl, rfl, rfl, rfl, λ _ _ => ⟨rfl, rfl⟩, rfl, λ _ _ => rfl, rfl, λ _ _ => rfl, rfl, λ _ _ => rfl⟩, ⟨?_, ⟨by show 0 < k; omega, i2⟩, (PR s1 (by omega) _ _).mono ?_, i4, i5, i6, i8⟩, Nat.le_refl k, j1, j2⟩, ?_⟩, λ hm => absurd (show (x.ms.length : Int) > 0 by omega) hm⟩, ?_⟩, λ hk => ?_⟩
  ·exact (show _ = dD a k x by rw [ARZ (k := k) (x := x) (by omega), go_1 j1]).trans i1
  ·show 7 + 7 * (a.m - (k : Int)) + 1 + 1 <= 9 + 7 * (a.m - (k : Int)); omega
  ·rintro ⟨k2, x2⟩ ⟨⟨q1, q2, q3, q4, q5, q6, q7⟩, p0, p1, p2⟩
   dsimp only at q1 q2 q3 q4 q5 q6 q7 p0 p1 p2 ⊢
   have t1 := q3.next (by omega) 5
   have t2 := t1.next (by omega) 400
   refine ⟨⟨rfl, q3.used.1⟩, λ hc => ⟨⟨Nat.one_pos, (λ h => by cases h), by omega, by omega⟩, ⟨rfl, t1.used.1⟩, ⟨k2, ⟨CP (CP x2.s 5) 400, x2.pl, wr (x2.tm + BZ (CP x2.s 5) 400), x2.ms, x2.t, x2.st, x2.z ++ [wr ((x2.ms.length : Int) - 1)]⟩⟩, ⟨rfl, rfl, rfl, rfl, λ _ _ => rfl, rfl, rfl, rfl, rfl, rfl, ?_, rfl, λ _ _ => ⟨rfl, rfl⟩, rfl, λ _ _ => rfl, rfl, λ _ _ => rfl, ?_, λ i hi => ?_⟩, ⟨?_, q2, t2.mono ?_, q4, q5, q6, ?_⟩, ?_, p1, ?_⟩, λ hc => ⟨⟨k2, ⟨CP x2.s 5, x2.pl, x2.tm, x2.ms, x2.t, x2.st, x2.z⟩⟩, ⟨rfl, rfl, rfl, rfl, λ _ _ => rfl, rfl, rfl, rfl, rfl, rfl, rfl, rfl, λ _ _ => ⟨rfl, rfl⟩, rfl, λ _ _ => rfl, rfl, λ _ _ => rfl, rfl, λ _ _ => rfl⟩, ⟨?_, q2, t1.mono ?_, q4, q5, q6, Nat.le_of_lt q7⟩, p0, p1, p2⟩⟩
   ·show (x2.z ++ [_]).length = _; simp
   ·show (x2.z ++ [_]).length = _; simp
   ·have hi : i < (x2.z ++ [(0 : Int)]).length := by have := hi; simpa using this
    rw [List.length_append] at hi
    show gD (x2.z ++ [_]) i = _
    rw [ZD _ _ _ (by simpa using hi)]; rfl
   ·have hc : (BZ x2.s 5 == 0) = true := hc
    have ez : advZ a x2 = ⟨CP (CP x2.s 5) 400, x2.pl, wr (x2.tm + BZ (CP x2.s 5) 400), x2.ms, x2.t, x2.st, x2.z ++ [wr ((x2.ms.length : Int) - 1)]⟩ := by
     unfold advZ; rw [hb, hc]; rfl
    rw [ez] at q1; exact q1
   ·show 9 + 7 * (a.m - (k2 : Int)) + 1 + 1 <= 11 + 7 * (a.m - (k2 : Int)); omega
   ·show (x2.z ++ [_]).length <= x2.ms.length; simp; omega
   ·show k2 <= k; omega
   ·show 0 < (x2.z ++ [_]).length; simp
   ·have hc : (BZ x2.s 5 == 0) = false := hc
    have ez : advZ a x2 = ⟨CP x2.s 5, x2.pl, x2.tm, x2.ms, x2.t, x2.st, x2.z⟩ := by
     unfold advZ; rw [hb, hc]; rfl
    rw [ez] at q1; exact q1
   ·show 9 + 7 * (a.m - (k2 : Int)) + 1 <= 11 + 7 * (a.m - (k2 : Int)); omega
  ·rintro ⟨k2, x2⟩ ⟨⟨q1, q2, q3, q4, q5, q6, q7⟩, p0, p1, p2⟩
   dsimp only at q1 q2 q3 q4 q5 q6 q7 p0 p1 p2 ⊢
   have s2 := q3.next (by omega) 60
   refine ⟨⟨rfl, q3.used.1⟩, ⟨⟨Nat.one_pos, (λ h => by cases h), by omega, by omega⟩, ⟨Nat.one_pos, (λ h => by cases h), by omega, by omega⟩, s2.used.1, Nat.one_pos, (λ h => by cases h), by omega, by omega⟩, ⟨k2 - 1, zL a x2⟩, ⟨rfl, rfl, ?_, rfl, λ _ _ => rfl, rfl, rfl, ?_, ?_, ?_, rfl, ?_, λ i hi => ?_, ?_, λ i hi => ?_, ?_, λ i hi => ?_, rfl, λ _ _ => rfl⟩, ⟨⟨q1, by show ((k2 - 1 : Nat) : Int) <= _; omega, (PR s2 (by omega) _ _).mono ?_, ?_, ?_, ?_, .inr ?_⟩, ?_, p2⟩, by show k2 - 1 < k; omega⟩
   ·rw [NU (by omega) (by omega)]; show ((k2 - 1 : Nat) : Int) = _; omega
   ·show (x2.ms ++ [_]).length = _; simp
   ·show (x2.t ++ [_]).length = _; simp
   ·show (x2.st ++ [_]).length = _; simp
   ·show (x2.ms ++ [_]).length = _; simp
   ·have hi : i < (x2.ms ++ [_]).length := hi
    rw [List.length_append] at hi
    show (gD (x2.ms ++ [_]) i).pl = _ /\ (gD (x2.ms ++ [_]) i).ht = _
    rw [ZD _ _ _ (by simpa using hi)]
    cases decide (i < x2.ms.length) <;> exact ⟨rfl, rfl⟩
   ·show (x2.t ++ [_]).length = _; simp
   ·have hi : i < (x2.t ++ [x2.tm]).length := hi
    rw [List.length_append] at hi
    show gD (x2.t ++ [_]) i = _
    rw [ZD _ _ _ (by simpa using hi)]
   ·show (x2.st ++ [_]).length = _; simp
   ·have hi : i < (x2.st ++ [(0 : Int)]).length := by have := hi; simpa [zL] using this
    rw [List.length_append] at hi
    show gD (x2.st ++ [_]) i = _
    rw [ZD _ _ _ (by simpa using hi)]; rfl
   ·show 11 + 7 * (a.m - (k2 : Int)) + 1 + 1 <= 7 + 7 * (a.m - ((k2 - 1 : Nat) : Int)); omega
   ·show (((x2.ms ++ [_]).length : Nat) : Int) + ((k2 - 1 : Nat) : Int) <= a.m
    rw [List.length_append]; simp; omega
   ·show (x2.t ++ [_]).length = (x2.ms ++ [_]).length; simp [q5]
   ·show (x2.st ++ [_]).length = (x2.ms ++ [_]).length; simp [q6]
   ·show x2.z.length < (x2.ms ++ [_]).length; simp; omega
   ·show 0 < (x2.ms ++ [_]).length; simp
  ·obtain rfl : k = 0 := by omega
   have e : x = mS a := i1
   subst e
   exact ⟨default, ⟨rfl, λ _ _ => rfl, rfl, rfl, rfl, Nat.le_refl _, λ _ _ => ⟨rfl, rfl⟩, rfl, Nat.le_refl _, λ _ _ => rfl, rfl, Nat.le_refl _, λ _ _ => rfl, rfl, Nat.le_refl _, λ _ _ => rfl⟩, i1, i2, i3, i4, i5, i6, i7⟩
 ·intro hF'
  obtain ⟨f1, f2, f3, f4, f5, f6, f7⟩ := hF'
  have hF' : fin6 a := ⟨f1, f2, f3, f4, f5, f6, f7⟩
  have fm : ((mS a).ms.length : Int) <= a.m := by omega
  refine ⟨⟨⟨⟨0, ⟨(mS a).s, []⟩⟩, ⟨rfl, rfl, λ _ _ => rfl, rfl, rfl⟩, ⟨hF', Nat.zero_le _, f3.mono (by show 7 + 7 * (a.m - ((0 : Nat) : Int)) <= 7 + 7 * a.m + 5 * ((0 : Nat) : Int); omega), rfl, Nat.le_refl _⟩, rfl⟩, ?_, ?_⟩, ?_, ?_⟩
  ·rintro ⟨i, x⟩ ⟨⟨_, g1, g2, g3, g4⟩, g5⟩
   dsimp only at g1 g2 g3 g4 g5 ⊢
   have s1 := g2.next (by omega) 2
   refine ⟨λ hc => ?_, λ hc => ?_⟩
   ·have hi := n_lt hc
    refine ⟨⟨⟨⟨rfl, g2.used.1⟩, ⟨i, ⟨CP x.s 2, x.ns⟩, BZ x.s 2 == 0⟩, ⟨rfl, rfl, rfl, λ _ _ => rfl, rfl, rfl⟩, ⟨hF', ⟨hi, rfl⟩, s1.mono (by show 7 + 7 * a.m + 5 * (i : Int) + 1 <= 8 + 7 * a.m + 5 * (i : Int); omega), (BNP hi).symm.trans g3, g4⟩, g5⟩, ?_⟩, ?_, ?_⟩
    ·rintro ⟨i2, x2, b2⟩ ⟨⟨_, ⟨q1, q2⟩, q3, q4, q5⟩, q6⟩
     dsimp only at q1 q2 q3 q4 q5 q6 ⊢
     have t1 := q3.next (by omega) 40
     have t2 := t1.next (by omega) 40
     have t3 := t2.next (by omega) 9
     have t4 := t3.next (by omega) 9
     refine ⟨λ hb2 => ?_, λ hb2 => ?_⟩
     ·subst hb2
      refine ⟨⟨⟨by omega, by omega⟩, rfl, q3.used.1, ⟨by omega, by omega⟩, rfl, t1.used.1, ⟨by omega, by omega⟩, rfl, t2.used.1, ⟨by omega, by omega⟩, rfl, t3.used.1, by decide⟩, ⟨i2, ⟨nS5 x2.s, x2.ns ++ [mkNt a x2.s i2]⟩⟩, ⟨rfl, rfl, λ _ _ => rfl, rfl, rfl, by rw [q6]; rfl, by rw [q6]; rfl, λ j hj => ?_⟩, ⟨hF', ⟨q1, q2⟩, t4.mono (by show 8 + 7 * a.m + 5 * (i2 : Int) + 1 + 1 + 1 + 1 <= 12 + 7 * a.m + 5 * (i2 : Int); omega), q4, ?_⟩, ?_⟩
      ·rw [q6] at hj ⊢
       have hj : j < 1 := hj
       obtain rfl : j = 0 := by omega
       exact ⟨rfl, rfl, rfl, rfl, rfl⟩
      ·show (x2.ns ++ [_]).length <= i2 + 1; rw [q6]; simp
      ·show 0 < (x2.ns ++ [_]).length; simp
     ·subst hb2
      exact ⟨⟨i2, x2⟩, ⟨rfl, rfl, λ _ _ => rfl, rfl, rfl⟩, ⟨hF', ⟨q1, q2⟩, q3.mono (by show 8 + 7 * a.m + 5 * (i2 : Int) <= 12 + 7 * a.m + 5 * (i2 : Int); omega), q4, Nat.le_succ_of_le q5⟩, q6⟩
    ·rintro ⟨i2, x2⟩ ⟨⟨_, ⟨q1, q2⟩, q3, q4, q5⟩, q6⟩
     dsimp only at q1 q2 q3 q4 q5 q6 ⊢
     exact ⟨⟨i2 + 1, x2⟩, ⟨(MO (by omega)).symm, rfl, λ _ _ => rfl, rfl, rfl⟩, ⟨⟨hF', by show i2 + 1 <= _; omega, q3.mono (by show 12 + 7 * a.m + 5 * (i2 : Int) <= 7 + 7 * a.m + 5 * ((i2 + 1 : Nat) : Int); omega), q4, q5⟩, q6⟩, by show 100 - (i2 + 1) < 100 - i; omega⟩
    ·rintro ⟨i2, x2⟩ ⟨⟨_, ⟨q1, q2⟩, q3, q4, q5⟩, q6⟩
     dsimp only at q1 q2 q3 q4 q5 q6 ⊢
     exact ⟨⟨i2 + 1, x2⟩, ⟨(MO (by omega)).symm, rfl, λ _ _ => rfl, rfl, rfl, rfl, rfl, λ _ _ => ⟨rfl, rfl, rfl, rfl, rfl⟩⟩, ⟨⟨hF', by show i2 + 1 <= _; omega, q3.mono (by show 12 + 7 * a.m + 5 * (i2 : Int) <= 7 + 7 * a.m + 5 * ((i2 + 1 : Nat) : Int); omega), q4, q5⟩, q6⟩, by show 100 - (i2 + 1) < 100 - i; omega⟩
   ·have hi := n_ge (by decide) hc
    obtain rfl : i = (mS a).ms.length := by omega
    rw [Nat.sub_self] at g3
    have e : x = Df a := g3
    subst e
    exact ⟨default, ⟨rfl, λ _ _ => rfl, rfl, rfl⟩, hF', g5⟩
  ·rintro ⟨i, x⟩ ⟨⟨_, g1, g2, g3, g4⟩, g5⟩
   dsimp only at g1 g2 g3 g4 g5 ⊢
   have s1 := g2.next (by omega) 2
   refine ⟨λ hc => ?_, λ hc => ?_⟩
   ·have hi := n_lt hc
    refine ⟨⟨⟨⟨rfl, g2.used.1⟩, ⟨i, ⟨CP x.s 2, x.ns⟩, BZ x.s 2 == 0⟩, ⟨rfl, rfl, rfl, λ _ _ => rfl, rfl, rfl, rfl, rfl, λ _ _ => ⟨rfl, rfl, rfl, rfl, rfl⟩⟩, ⟨hF', ⟨hi, rfl⟩, s1.mono (by show 7 + 7 * a.m + 5 * (i : Int) + 1 <= 8 + 7 * a.m + 5 * (i : Int); omega), (BNP hi).symm.trans g3, g4⟩, g5⟩, ?_⟩, ?_⟩
    ·rintro ⟨i2, x2, b2⟩ ⟨⟨_, ⟨q1, q2⟩, q3, q4, q5⟩, q6⟩
     dsimp only at q1 q2 q3 q4 q5 q6 ⊢
     have t1 := q3.next (by omega) 40
     have t2 := t1.next (by omega) 40
     have t3 := t2.next (by omega) 9
     have t4 := t3.next (by omega) 9
     refine ⟨λ hb2 => ?_, λ hb2 => ?_⟩
     ·subst hb2
      refine ⟨⟨⟨by omega, by omega⟩, rfl, q3.used.1, ⟨by omega, by omega⟩, rfl, t1.used.1, ⟨by omega, by omega⟩, rfl, t2.used.1, ⟨by omega, by omega⟩, rfl, t3.used.1, Nat.one_pos, (λ h => by cases h), by omega, by omega⟩, ⟨i2, ⟨nS5 x2.s, x2.ns ++ [mkNt a x2.s i2]⟩⟩, ⟨rfl, rfl, λ _ _ => rfl, rfl, rfl, by simp, by simp, λ j hj => ?_⟩, ⟨hF', ⟨q1, q2⟩, t4.mono (by show 8 + 7 * a.m + 5 * (i2 : Int) + 1 + 1 + 1 + 1 <= 12 + 7 * a.m + 5 * (i2 : Int); omega), q4, ?_⟩, ?_⟩
      ·have hj : j < (x2.ns ++ [mkNt a x2.s i2]).length := hj
       rw [List.length_append] at hj
       show (gD (x2.ns ++ [_]) j).mi = _ /\ (gD (x2.ns ++ [_]) j).t.lo = _ /\ (gD (x2.ns ++ [_]) j).t.hi = _ /\ (gD (x2.ns ++ [_]) j).s.lo = _ /\ (gD (x2.ns ++ [_]) j).s.hi = _
       rw [ZD _ _ _ (by simpa using hj)]
       cases decide (j < x2.ns.length) <;> exact ⟨rfl, rfl, rfl, rfl, rfl⟩
      ·show (x2.ns ++ [_]).length <= i2 + 1; simp; omega
      ·show 0 < (x2.ns ++ [_]).length; simp
     ·subst hb2
      exact ⟨⟨i2, x2⟩, ⟨rfl, rfl, λ _ _ => rfl, rfl, rfl, rfl, rfl, λ _ _ => ⟨rfl, rfl, rfl, rfl, rfl⟩⟩, ⟨hF', ⟨q1, q2⟩, q3.mono (by show 8 + 7 * a.m + 5 * (i2 : Int) <= 12 + 7 * a.m + 5 * (i2 : Int); omega), q4, Nat.le_succ_of_le q5⟩, q6⟩
    ·rintro ⟨i2, x2⟩ ⟨⟨_, ⟨q1, q2⟩, q3, q4, q5⟩, q6⟩
     dsimp only at q1 q2 q3 q4 q5 q6 ⊢
     exact ⟨⟨i2 + 1, x2⟩, ⟨(MO (by omega)).symm, rfl, λ _ _ => rfl, rfl, rfl, rfl, rfl, λ _ _ => ⟨rfl, rfl, rfl, rfl, rfl⟩⟩, ⟨⟨hF', by show i2 + 1 <= _; omega, q3.mono (by show 12 + 7 * a.m + 5 * (i2 : Int) <= 7 + 7 * a.m + 5 * ((i2 + 1 : Nat) : Int); omega), q4, q5⟩, q6⟩, by show 100 - (i2 + 1) < 100 - i; omega⟩
   ·have hi := n_ge (by omega) hc
    obtain rfl : i = (mS a).ms.length := by omega
    rw [Nat.sub_self] at g3
    have e : x = Df a := g3
    subst e
    exact ⟨default, ⟨rfl, λ _ _ => rfl, rfl, rfl, rfl, rfl, λ _ _ => ⟨rfl, rfl, rfl, rfl, rfl⟩⟩, hF', g2.mono (by omega), g5, by omega⟩
  ·rintro ⟨_, e0⟩
   have em : mE a = Df a := by unfold mE; rw [e0]; rfl
   have en : (mE a).ns = [] := by rw [em]; exact e0
   have el : (XB a).ns.length = 0 := by show (mE a).ns.length = 0; rw [en]; rfl
   refine ⟨⟨default, ⟨by rw [em], λ _ _ => by rw [em], by rw [em], by rw [em]⟩, en⟩, λ _ => ⟨rfl, rfl, rfl, rfl, rfl, rfl, λ _ _ => ⟨rfl, rfl⟩, el, el, rfl, λ _ _ => rfl, rfl, λ _ _ => rfl, rfl, λ _ _ => rfl⟩⟩
  ·rintro ⟨_, e1, e2, e3⟩
   refine ⟨⟨⟨(Df a).ns.length - 1, Df a⟩, ⟨?_, rfl, λ _ _ => rfl, rfl, rfl, rfl, rfl, λ _ _ => ⟨rfl, rfl, rfl, rfl, rfl⟩⟩, hF', by show (Df a).ns.length - 1 < (Df a).ns.length; omega, e1.mono ?_, rfl, e3⟩, ?_⟩
   ·rw [NU (by omega) (by omega)]; show (((Df a).ns.length - 1 : Nat) : Int) = _; omega
   ·show 7 + 7 * a.m + 5 * a.m <= 7 + 7 * a.m + 5 * a.m + a.m - (((Df a).ns.length - 1 : Nat) : Int); omega
   ·rintro ⟨i, x⟩ ⟨_, r1, r2, r3, r4⟩
    dsimp only at r1 r2 r3 r4 ⊢
    refine ⟨λ hi => ?_, λ hi => ?_⟩
    ·obtain ⟨j, rfl⟩ : ∃ j, i = j + 1 := ⟨i - 1, by omega⟩
     have ew : IntKind.i64.wrap (((j + 1 : Nat) : Int) + 1) = (j : Int) + 2 := by rw [NU (by omega) (by omega)]; omega
     have ew2 : IntKind.i64.wrap (((j + 1 : Nat) : Int) - 1) = (j : Int) := by rw [NU (by omega) (by omega)]; omega
     have hv := SV r2 (by omega) ((j : Int) + 2)
     have hv2 := hv.2 (by omega)
     rw [ew, ew2]
     have hk : (BZ x.s ((j : Int) + 2)).toNat < x.ns.length := by omega
     refine ⟨r2.used.1, ⟨⟨hv.1, by omega⟩, hk, ⟨by omega, by omega⟩, r1, ⟨by omega, by omega⟩, r1, ⟨hv.1, by omega⟩, hk⟩, ⟨j, ⟨CP x.s ((j : Int) + 2), swN x.ns (j + 1) (BZ x.s ((j : Int) + 2)).toNat⟩⟩, ⟨rfl, rfl, λ _ _ => rfl, rfl, rfl, Wb _ _ _, Wb _ _ _, λ t ht => ?_⟩, ⟨hF', ?_, (r2.next (by omega) _).mono ?_, r3, ?_⟩, Nat.lt_succ_self _⟩
     ·have e := BED (l := x.ns) (i := j + 1) (k := (BZ x.s ((j : Int) + 2)).toNat) r1 hk (t := t)
      show (gD (swN x.ns (j + 1) _) t).mi = _ /\ (gD (swN x.ns (j + 1) _) t).t.lo = _ /\ (gD (swN x.ns (j + 1) _) t).t.hi = _ /\ (gD (swN x.ns (j + 1) _) t).s.lo = _ /\ (gD (swN x.ns (j + 1) _) t).s.hi = _
      rw [e]
      cases decide (t = (BZ x.s ((j : Int) + 2)).toNat) <;> cases decide (t = j + 1) <;> exact ⟨rfl, rfl, rfl, rfl, rfl⟩
     ·show j < (swN x.ns _ _).length; rw [Wb]; omega
     ·show 7 + 7 * a.m + 5 * a.m + a.m - ((j + 1 : Nat) : Int) + 1 <= 7 + 7 * a.m + 5 * a.m + a.m - (j : Int); omega
     ·show ((swN x.ns _ _).length : Int) <= _; rw [Wb]; exact r4
    ·obtain rfl : i = 0 := by omega
     have e : x = mE a := r3
     subst e
     exact ⟨rfl, rfl, rfl, rfl, rfl, rfl, λ _ _ => ⟨rfl, rfl⟩, rfl, Nat.le_refl _, λ _ _ => ⟨rfl, rfl, rfl, rfl, rfl⟩, rfl, λ _ _ => rfl, rfl, λ _ _ => rfl, rfl, λ _ _ => rfl, rfl, λ _ _ => rfl, rfl, rfl⟩
theorem BFE : AR Try.prog ASK ((yO true).spec (dMkI true)) := Bl (yO true) (BAX true) [] [305] BJQ (λ _ => by kernel_rfl) (λ _ => AC AWI (AC AZW AI)) (λ (a : MkI) h => BIS a (show preM a /\ a.b = true from h).1 (show preM a /\ a.b = true from h).2) (λ _ => Ec rfl rfl) _
end Go.Bal
