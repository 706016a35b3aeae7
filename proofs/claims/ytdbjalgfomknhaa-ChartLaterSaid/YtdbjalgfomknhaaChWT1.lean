/- Package chart: charts that are made of numbers, with stops. -/
import Derived.Test.YtdbjalgfomknhaaChWT
import Derived.Test.YtdbjalgfomknhaaChT5
set_option linter.unusedVariables false
set_option linter.unusedSimpArgs false
namespace Go.Bal
open Go Go.Sym Go.Proofs
set_option maxHeartbeats 4000000 in
theorem COG (a : MkI) (h : preM a) (hb : a.b = true) : CCV a := by
 obtain ⟨b1, b2, b3, b4, b5, b6⟩ := BQN h
 obtain ⟨n1, n2, n3⟩ := CIZ h
 have m2 := h.2.2
 rw [CJH]; delta fO Z6 dA R3 AAD AIQ Zn AFG AHI ACA Ge kO UH Ea sK Hr mW kI jJ Jf nH SI Is LW rF Hj oW mK sY Iu iM UC Jb kZ Jp pQ AC AA AB Ig Jd mF sF Jr oC Hi lW kN Hd pP Hw Ix qF iD Ii tQ JA mQ Gy Fg Gw Hf TI tK Hc rO qN kH Ff FB Ei Ed Et Gc tW nE RS mD Ec lV Im TN Jo Js MP nD tC Ex Jc TJ TV Ji JB Fy rK SM iI RQ qC He Lc Sr Tm WC Tq Vj Ms ON Sd WN Ls Rr UU Nn VQ Wu WM XH WH VX Uu Wy Un Ya Qz Ty XM FR VR WQ XW UZ Vf Uy Mz Oc Ut CW Pw Kc US NZ OO YD Xz Oo My XZ Xu OS VP Va Lb Sw Xb YF Kw Um Lt Np Oy EK ES ER OB NY OD XJ Wx Qk Pm Qr Sb VZ Te VB WS UP Mu JQ OY Pv Wq Tf UM Xn Qe Kp Tz Ur Vb Vq XX Xj Kb Kf Uc Vp XU JY WR YH WJ XA NT NX OR Nw Ku Se Ux WG Lz Pb VY Xy Xl JR Sf Vw Lo On Po Pe Ss Rb XB Nh Lh Xo OX Tt HA DO DN DQ DP DJ DI DM DR GX WI Mv Vl Qo WK Xk VT Xf Wk Pd Kh OW Sq WD Nu Le Sy Qc Sg JS Wj Kt Ma Tg NP OA WL Qw Rl Sj Ko Wb Kx Tv YI Xd Ov Nf VU Lj Kj Ly NN Ql XL Vs Mc NR Rq UR Wt Ry Su VD Kq Qs Sl OV Qm UQ Om Wz Lr WP Wl Ol Ub WX Vg Px Qi NL Vv YC Pa Xc Rc Kk NJ Rt UW Wr Tw Tl Ve Pp Ns Tu Ua Vc Pi VV Rk Ou OJ Rh Qb Ws Sp Ok KB Mb Uo Li Kn Pk Ld OI Qy WW Ke No Ui Pt Wo Oi Vo YB Up JK Si Nb Xq Ni VN Th Nk Pz Oe Pj Rz Lm Tx Uj Xi VM XC Qn NV Us XN Oh VL Rx JX UV JM VS Mr Rj Ll Wn XR Tj Ru Na; simp only [CC, eq_self, implies_true, forall_const, BSD]
 refine ⟨⟨⟨rfl, rfl, h.1.used.1, rfl, rfl, b1.used.1, rfl, b2.used.1, rfl, b3.used.1⟩, default, ⟨rfl, λ _ _ => rfl, rfl, rfl, rfl, rfl, rfl, rfl⟩, b4⟩, λ _ => ⟨⟨⟨rfl, b4.used.1⟩, default, ⟨rfl, λ _ _ => rfl, rfl, rfl, rfl⟩, b5⟩, λ _ => ⟨⟨⟨rfl, b5.used.1⟩, default, ⟨rfl, rfl, λ _ _ => rfl, rfl, rfl⟩, b6⟩, λ _ => ⟨⟨⟨rfl, b6.used.1⟩, ⟨⟨mN a, mS0 a⟩, ⟨rfl, rfl, n1, rfl, λ _ _ => rfl, rfl, rfl⟩, ⟨rfl, n3, ?_, ?_, rfl, rfl, .inl rfl⟩, n2, rfl, rfl⟩, ?_, ?_, ?_⟩, ?_⟩⟩⟩⟩
 ·exact (DV b6 (by omega) 1 a.m).mono (by show 6 + 1 <= 7 + 7 * (a.m - (mN a : Int)); omega)
 ·show (((0 : Nat) : Int)) + (mN a : Int) <= a.m; omega
 ·rintro ⟨k, s, pl, tm, ms, t, st, z⟩ ⟨⟨i1, i2, i3, i4, i5, i6, i7⟩, j1, j2, j3⟩
  dsimp only at i1 i2 i3 i4 i5 i6 i7 j1 j2 j3 ⊢
  subst j2 j3
  obtain rfl : t = [] := List.length_eq_zero_iff.1 i5
  obtain rfl : st = [] := List.length_eq_zero_iff.1 i6
  refine ⟨λ _ => ⟨⟨⟨k, s, pl, tm, [], [], [], []⟩, ⟨rfl, rfl, rfl, rfl, λ _ _ => rfl, rfl, rfl⟩, ⟨?_, ⟨j1, i2⟩, i3.mono (by show 7 + 7 * (a.m - (k : Int)) <= 11 + 7 * (a.m - (k : Int)); omega), i4, rfl, rfl, Nat.le_refl _⟩, rfl, rfl⟩, ?_⟩, λ hk => absurd (show (k : Int) > 0 by omega) hk⟩
  ·rw [<- i1, BYB j1, go_0 rfl]
  ·rintro ⟨k, s, pl, tm, ms, t, st, z⟩ ⟨⟨q1, q2, q3, q4, q5, q6, q7⟩, p1, p2⟩
   dsimp only at q1 q2 q3 q4 q5 q6 q7 p1 p2 ⊢
   subst p1 p2
   obtain rfl : t = [] := List.length_eq_zero_iff.1 q5
   obtain rfl : st = [] := List.length_eq_zero_iff.1 q6
   have s1 := q3.next (by omega) 60
   refine ⟨⟨rfl, q3.used.1⟩, ⟨by decide, by decide, s1.used.1, by decide⟩, ⟨k - 1, iL a ⟨s, pl, tm, [], [], [], []⟩⟩, ⟨rfl, rfl, ?_, rfl, λ _ _ => rfl, rfl, rfl, rfl, rfl, rfl, rfl, λ i hi => ?_, rfl, λ i hi => ?_, rfl, λ i hi => ?_⟩, ⟨⟨q1, by show ((k - 1 : Nat) : Int) <= _; omega, (DV s1 (by omega) _ _).mono ?_, ?_, rfl, rfl, .inl rfl⟩, Nat.one_pos, rfl⟩, by show k - 1 + 20 < 100; omega⟩
   ·rw [CP (by omega) (by omega)]; show ((k - 1 : Nat) : Int) = _; omega
   ·have hi : i < 1 := hi
    obtain rfl : i = 0 := by omega
    exact ⟨rfl, rfl⟩
   ·have hi : i < 1 := hi
    obtain rfl : i = 0 := by omega
    rfl
   ·have hi : i < 1 := hi
    obtain rfl : i = 0 := by omega
    rfl
   ·show 11 + 7 * (a.m - (k : Int)) + 1 + 1 <= 7 + 7 * (a.m - ((k - 1 : Nat) : Int)); omega
   ·show ((1 : Nat) : Int) + ((k - 1 : Nat) : Int) <= a.m; omega
 ·rintro ⟨k, x⟩ ⟨⟨i1, i2, i3, i4, i5, i6, i7⟩, j1, j2⟩
  dsimp only at i1 i2 i3 i4 i5 i6 i7 j1 j2 ⊢
  have s1 := DV i3 (by omega) 1 30
  refine ⟨λ hk => ⟨⟨λ hm => ⟨⟨rfl, rfl, i3.used.1⟩, ⟨s1.used.1, ⟨k, advA a x⟩, ⟨rfl, rfl, rfl, rfl, λ _ _ => rfl, rfl, rfl, rfl, rfl, rfl, rfl, λ _ _ => ⟨rfl, rfl⟩, rfl, λ _ _ => rfl, rfl, λ _ _ => rfl⟩, ⟨?_, ⟨by show 0 < k; omega, i2⟩, (DV s1 (by omega) _ _).mono ?_, i4, i5, i6, ?_⟩, by show k + 19 < k + 20; omega, j1, j2⟩, ?_⟩, λ hm => absurd (show (x.ms.length : Int) > 0 by omega) hm⟩, ?_, ?_⟩, λ hk => ?_⟩
  ·exact (show _ = Gl a k x by rw [BYB (k := k) (x := x) (by omega), go_1 j1]).trans i1
  ·show 7 + 7 * (a.m - (k : Int)) + 1 + 1 <= 9 + 7 * (a.m - (k : Int)); omega
  ·show x.z.length < x.ms.length; rw [j2]; exact j1
  ·rintro ⟨k2, x2⟩ ⟨⟨q1, q2, q3, q4, q5, q6, q7⟩, p0, p1, p2⟩
   dsimp only at q1 q2 q3 q4 q5 q6 q7 p0 p1 p2 ⊢
   have t1 := q3.next (by omega) 5
   have t2 := t1.next (by omega) 400
   refine ⟨⟨rfl, q3.used.1⟩, λ hc => ⟨⟨(λ h => by cases h), Nat.one_pos, Nat.one_pos, by decide, by decide⟩, ⟨rfl, t1.used.1⟩, ⟨k2, ⟨AQ (AQ x2.s 5) 400, x2.pl, wr (x2.tm + AN (AQ x2.s 5) 400), x2.ms, x2.t, x2.st, [wr ((x2.ms.length : Int) - 1)]⟩⟩, ⟨rfl, rfl, rfl, rfl, λ _ _ => rfl, rfl, rfl, rfl, rfl, rfl, rfl, rfl, λ _ _ => ⟨rfl, rfl⟩, rfl, λ _ _ => rfl, rfl, λ _ _ => rfl, rfl, λ i hi => ?_⟩, ⟨?_, q2, t2.mono ?_, q4, q5, q6, ?_⟩, ?_, p1, Nat.one_pos⟩, λ hc => ⟨⟨k2, ⟨AQ x2.s 5, x2.pl, x2.tm, x2.ms, x2.t, x2.st, x2.z⟩⟩, ⟨rfl, rfl, rfl, rfl, λ _ _ => rfl, rfl, rfl, rfl, rfl, rfl, rfl, λ _ _ => ⟨rfl, rfl⟩, rfl, λ _ _ => rfl, rfl, λ _ _ => rfl⟩, ⟨?_, q2, t1.mono ?_, q4, q5, q6, Nat.le_of_lt q7⟩, p0, p1, p2⟩⟩
   ·have hi : i < 1 := hi
    obtain rfl : i = 0 := by omega
    rfl
   ·have hc : (AN x2.s 5 == 0) = true := hc
    have ez : advZ a x2 = ⟨AQ (AQ x2.s 5) 400, x2.pl, wr (x2.tm + AN (AQ x2.s 5) 400), x2.ms, x2.t, x2.st, [wr ((x2.ms.length : Int) - 1)]⟩ := by
     unfold advZ; rw [hb, hc, p2]; rfl
    rw [ez] at q1; exact q1
   ·show 9 + 7 * (a.m - (k2 : Int)) + 1 + 1 <= 11 + 7 * (a.m - (k2 : Int)); omega
   ·show 1 <= x2.ms.length; exact p1
   ·show k2 <= k + 20; omega
   ·have hc : (AN x2.s 5 == 0) = false := hc
    have ez : advZ a x2 = ⟨AQ x2.s 5, x2.pl, x2.tm, x2.ms, x2.t, x2.st, x2.z⟩ := by
     unfold advZ; rw [hb, hc]; rfl
    rw [ez] at q1; exact q1
   ·show 9 + 7 * (a.m - (k2 : Int)) + 1 <= 11 + 7 * (a.m - (k2 : Int)); omega
  ·rintro ⟨k2, x2⟩ ⟨⟨q1, q2, q3, q4, q5, q6, q7⟩, p0, p1, p2⟩
   dsimp only at q1 q2 q3 q4 q5 q6 q7 p0 p1 p2 ⊢
   have s2 := q3.next (by omega) 60
   refine ⟨⟨rfl, q3.used.1⟩, ⟨⟨Nat.one_pos, (λ h => by cases h), by omega, by omega⟩, ⟨Nat.one_pos, (λ h => by cases h), by omega, by omega⟩, s2.used.1, Nat.one_pos, (λ h => by cases h), by omega, by omega⟩, ⟨k2 - 1, iL a x2⟩, ⟨rfl, rfl, ?_, rfl, λ _ _ => rfl, rfl, rfl, ?_, ?_, ?_, ?_, λ i hi => ?_, ?_, λ i hi => ?_, ?_, λ i hi => ?_⟩, ⟨⟨q1, by show ((k2 - 1 : Nat) : Int) <= _; omega, (DV s2 (by omega) _ _).mono ?_, ?_, ?_, ?_, .inl p2⟩, ?_, p2⟩, by show k2 - 1 + 20 < k + 20; omega⟩
   ·rw [CP (by omega) (by omega)]; show ((k2 - 1 : Nat) : Int) = _; omega
   ·show (x2.ms ++ [_]).length = _; simp
   ·show (x2.t ++ [_]).length = _; simp
   ·show (x2.st ++ [_]).length = _; simp
   ·show (x2.ms ++ [_]).length = _; simp
   ·have hi : i < (x2.ms ++ [_]).length := hi
    rw [List.length_append] at hi
    show (gD (x2.ms ++ [_]) i).pl = _ /\ (gD (x2.ms ++ [_]) i).ht = _
    rw [HY _ _ _ (by simpa using hi)]
    cases decide (i < x2.ms.length) <;> exact ⟨rfl, rfl⟩
   ·show (x2.t ++ [_]).length = _; simp
   ·have hi : i < (x2.t ++ [x2.tm]).length := hi
    rw [List.length_append] at hi
    show gD (x2.t ++ [_]) i = _
    rw [HY _ _ _ (by simpa using hi)]
   ·show (x2.st ++ [_]).length = _; simp
   ·have hi : i < (x2.st ++ [(0 : Int)]).length := by have := hi; simpa [iL] using this
    rw [List.length_append] at hi
    show gD (x2.st ++ [_]) i = _
    rw [HY _ _ _ (by simpa using hi)]; rfl
   ·show 11 + 7 * (a.m - (k2 : Int)) + 1 + 1 <= 7 + 7 * (a.m - ((k2 - 1 : Nat) : Int)); omega
   ·show (((x2.ms ++ [_]).length : Nat) : Int) + ((k2 - 1 : Nat) : Int) <= a.m
    rw [List.length_append]; simp; omega
   ·show (x2.t ++ [_]).length = (x2.ms ++ [_]).length; simp [q5]
   ·show (x2.st ++ [_]).length = (x2.ms ++ [_]).length; simp [q6]
   ·show 0 < (x2.ms ++ [_]).length; simp
  ·rintro ⟨k2, x2⟩ ⟨⟨q1, q2, q3, q4, q5, q6, q7⟩, p0, p1, p2⟩
   dsimp only at q1 q2 q3 q4 q5 q6 q7 p0 p1 p2 ⊢
   have s2 := q3.next (by omega) 60
   refine ⟨⟨rfl, q3.used.1⟩, ⟨⟨Nat.one_pos, (λ h => by cases h), by omega, by omega⟩, ⟨Nat.one_pos, (λ h => by cases h), by omega, by omega⟩, s2.used.1, Nat.one_pos, (λ h => by cases h), by omega, by omega⟩, ⟨k2 - 1, iL a x2⟩, ⟨rfl, rfl, ?_, rfl, λ _ _ => rfl, rfl, rfl, ?_, ?_, ?_, rfl, ?_, λ i hi => ?_, ?_, λ i hi => ?_, ?_, λ i hi => ?_, rfl, λ _ _ => rfl⟩, ⟨⟨q1, by show ((k2 - 1 : Nat) : Int) <= _; omega, (DV s2 (by omega) _ _).mono ?_, ?_, ?_, ?_, .inr ?_⟩, ?_, p2⟩, by show k2 - 1 < k + 20; omega⟩
   ·rw [CP (by omega) (by omega)]; show ((k2 - 1 : Nat) : Int) = _; omega
   ·show (x2.ms ++ [_]).length = _; simp
   ·show (x2.t ++ [_]).length = _; simp
   ·show (x2.st ++ [_]).length = _; simp
   ·show (x2.ms ++ [_]).length = _; simp
   ·have hi : i < (x2.ms ++ [_]).length := hi
    rw [List.length_append] at hi
    show (gD (x2.ms ++ [_]) i).pl = _ /\ (gD (x2.ms ++ [_]) i).ht = _
    rw [HY _ _ _ (by simpa using hi)]
    cases decide (i < x2.ms.length) <;> exact ⟨rfl, rfl⟩
   ·show (x2.t ++ [_]).length = _; simp
   ·have hi : i < (x2.t ++ [x2.tm]).length := hi
    rw [List.length_append] at hi
    show gD (x2.t ++ [_]) i = _
    rw [HY _ _ _ (by simpa using hi)]
   ·show (x2.st ++ [_]).length = _; simp
   ·have hi : i < (x2.st ++ [(0 : Int)]).length := by have := hi; simpa [iL] using this
    rw [List.length_append] at hi
    show gD (x2.st ++ [_]) i = _
    rw [HY _ _ _ (by simpa using hi)]; rfl
   ·show 11 + 7 * (a.m - (k2 : Int)) + 1 + 1 <= 7 + 7 * (a.m - ((k2 - 1 : Nat) : Int)); omega
   ·show (((x2.ms ++ [_]).length : Nat) : Int) + ((k2 - 1 : Nat) : Int) <= a.m
    rw [List.length_append]; simp; omega
   ·show (x2.t ++ [_]).length = (x2.ms ++ [_]).length; simp [q5]
   ·show (x2.st ++ [_]).length = (x2.ms ++ [_]).length; simp [q6]
   ·show x2.z.length < (x2.ms ++ [_]).length; simp; omega
   ·show 0 < (x2.ms ++ [_]).length; simp
  ·obtain rfl : k = 0 := by omega
   have e : x = mS a := i1
   subst e
   exact ⟨default, ⟨rfl, λ _ _ => rfl, rfl, rfl, rfl, Nat.le_refl _, λ _ _ => ⟨rfl, rfl⟩, rfl, Nat.le_refl _, λ _ _ => rfl, rfl, Nat.le_refl _, λ _ _ => rfl, by rw [j2]; rfl⟩, i1, i2, i3, i4, i5, i6, i7⟩
 ·rintro ⟨k, x⟩ ⟨⟨i1, i2, i3, i4, i5, i6, i7⟩, j1, j2⟩
  dsimp only at i1 i2 i3 i4 i5 i6 i7 j1 j2 ⊢
  have s1 := DV i3 (by omega) 1 30
  have i8 : x.z.length < x.ms.length := i7.elim (λ e => by rw [e] at j2; exact absurd j2 (Nat.lt_irrefl 0)) id
  refine ⟨λ hk => ⟨⟨λ hm => ⟨⟨rfl, rfl, i3.used.1⟩, ⟨s1.used.1, ⟨k, advA a x⟩, ⟨rfl, rfl, rfl, rfl, λ _ _ => rfl, rfl, rfl, rfl, rfl, rfl, rfl, rfl, λ _ _ => ⟨rfl, rfl⟩, rfl, λ _ _ => rfl, rfl, λ _ _ => rfl, rfl, λ _ _ => rfl⟩, ⟨?_, ⟨by show 0 < k; omega, i2⟩, (DV s1 (by omega) _ _).mono ?_, i4, i5, i6, i8⟩, Nat.le_refl k, j1, j2⟩, ?_⟩, λ hm => absurd (show (x.ms.length : Int) > 0 by omega) hm⟩, ?_⟩, λ hk => ?_⟩
  ·exact (show _ = Gl a k x by rw [BYB (k := k) (x := x) (by omega), go_1 j1]).trans i1
  ·show 7 + 7 * (a.m - (k : Int)) + 1 + 1 <= 9 + 7 * (a.m - (k : Int)); omega
  ·rintro ⟨k2, x2⟩ ⟨⟨q1, q2, q3, q4, q5, q6, q7⟩, p0, p1, p2⟩
   dsimp only at q1 q2 q3 q4 q5 q6 q7 p0 p1 p2 ⊢
   have t1 := q3.next (by omega) 5
   have t2 := t1.next (by omega) 400
   refine ⟨⟨rfl, q3.used.1⟩, λ hc => ⟨⟨Nat.one_pos, (λ h => by cases h), by omega, by omega⟩, ⟨rfl, t1.used.1⟩, ⟨k2, ⟨AQ (AQ x2.s 5) 400, x2.pl, wr (x2.tm + AN (AQ x2.s 5) 400), x2.ms, x2.t, x2.st, x2.z ++ [wr ((x2.ms.length : Int) - 1)]⟩⟩, ⟨rfl, rfl, rfl, rfl, λ _ _ => rfl, rfl, rfl, rfl, rfl, rfl, ?_, rfl, λ _ _ => ⟨rfl, rfl⟩, rfl, λ _ _ => rfl, rfl, λ _ _ => rfl, ?_, λ i hi => ?_⟩, ⟨?_, q2, t2.mono ?_, q4, q5, q6, ?_⟩, ?_, p1, ?_⟩, λ hc => ⟨⟨k2, ⟨AQ x2.s 5, x2.pl, x2.tm, x2.ms, x2.t, x2.st, x2.z⟩⟩, ⟨rfl, rfl, rfl, rfl, λ _ _ => rfl, rfl, rfl, rfl, rfl, rfl, rfl, rfl, λ _ _ => ⟨rfl, rfl⟩, rfl, λ _ _ => rfl, rfl, λ _ _ => rfl, rfl, λ _ _ => rfl⟩, ⟨?_, q2, t1.mono ?_, q4, q5, q6, Nat.le_of_lt q7⟩, p0, p1, p2⟩⟩
   ·show (x2.z ++ [_]).length = _; simp
   ·show (x2.z ++ [_]).length = _; simp
   ·have hi : i < (x2.z ++ [(0 : Int)]).length := by have := hi; simpa using this
    rw [List.length_append] at hi
    show gD (x2.z ++ [_]) i = _
    rw [HY _ _ _ (by simpa using hi)]; rfl
   ·have hc : (AN x2.s 5 == 0) = true := hc
    have ez : advZ a x2 = ⟨AQ (AQ x2.s 5) 400, x2.pl, wr (x2.tm + AN (AQ x2.s 5) 400), x2.ms, x2.t, x2.st, x2.z ++ [wr ((x2.ms.length : Int) - 1)]⟩ := by
     unfold advZ; rw [hb, hc]; rfl
    rw [ez] at q1; exact q1
   ·show 9 + 7 * (a.m - (k2 : Int)) + 1 + 1 <= 11 + 7 * (a.m - (k2 : Int)); omega
   ·show (x2.z ++ [_]).length <= x2.ms.length; simp; omega
   ·show k2 <= k; omega
   ·show 0 < (x2.z ++ [_]).length; simp
   ·have hc : (AN x2.s 5 == 0) = false := hc
    have ez : advZ a x2 = ⟨AQ x2.s 5, x2.pl, x2.tm, x2.ms, x2.t, x2.st, x2.z⟩ := by
     unfold advZ; rw [hb, hc]; rfl
    rw [ez] at q1; exact q1
   ·show 9 + 7 * (a.m - (k2 : Int)) + 1 <= 11 + 7 * (a.m - (k2 : Int)); omega
  ·rintro ⟨k2, x2⟩ ⟨⟨q1, q2, q3, q4, q5, q6, q7⟩, p0, p1, p2⟩
   dsimp only at q1 q2 q3 q4 q5 q6 q7 p0 p1 p2 ⊢
   have s2 := q3.next (by omega) 60
   refine ⟨⟨rfl, q3.used.1⟩, ⟨⟨Nat.one_pos, (λ h => by cases h), by omega, by omega⟩, ⟨Nat.one_pos, (λ h => by cases h), by omega, by omega⟩, s2.used.1, Nat.one_pos, (λ h => by cases h), by omega, by omega⟩, ⟨k2 - 1, iL a x2⟩, ⟨rfl, rfl, ?_, rfl, λ _ _ => rfl, rfl, rfl, ?_, ?_, ?_, rfl, ?_, λ i hi => ?_, ?_, λ i hi => ?_, ?_, λ i hi => ?_, rfl, λ _ _ => rfl⟩, ⟨⟨q1, by show ((k2 - 1 : Nat) : Int) <= _; omega, (DV s2 (by omega) _ _).mono ?_, ?_, ?_, ?_, .inr ?_⟩, ?_, p2⟩, by show k2 - 1 < k; omega⟩
   ·rw [CP (by omega) (by omega)]; show ((k2 - 1 : Nat) : Int) = _; omega
   ·show (x2.ms ++ [_]).length = _; simp
   ·show (x2.t ++ [_]).length = _; simp
   ·show (x2.st ++ [_]).length = _; simp
   ·show (x2.ms ++ [_]).length = _; simp
   ·have hi : i < (x2.ms ++ [_]).length := hi
    rw [List.length_append] at hi
    show (gD (x2.ms ++ [_]) i).pl = _ /\ (gD (x2.ms ++ [_]) i).ht = _
    rw [HY _ _ _ (by simpa using hi)]
    cases decide (i < x2.ms.length) <;> exact ⟨rfl, rfl⟩
   ·show (x2.t ++ [_]).length = _; simp
   ·have hi : i < (x2.t ++ [x2.tm]).length := hi
    rw [List.length_append] at hi
    show gD (x2.t ++ [_]) i = _
    rw [HY _ _ _ (by simpa using hi)]
   ·show (x2.st ++ [_]).length = _; simp
   ·have hi : i < (x2.st ++ [(0 : Int)]).length := by have := hi; simpa [iL] using this
    rw [List.length_append] at hi
    show gD (x2.st ++ [_]) i = _
    rw [HY _ _ _ (by simpa using hi)]; rfl
   ·show 11 + 7 * (a.m - (k2 : Int)) + 1 + 1 <= 7 + 7 * (a.m - ((k2 - 1 : Nat) : Int)); omega
   ·show (((x2.ms ++ [_]).length : Nat) : Int) + ((k2 - 1 : Nat) : Int) <= a.m
    rw [List.length_append]; simp; omega
   ·show (x2.t ++ [_]).length = (x2.ms ++ [_]).length; simp [q5]
   ·show (x2.st ++ [_]).length = (x2.ms ++ [_]).length; simp [q6]
   ·show x2.z.length < (x2.ms ++ [_]).length; simp; omega
   ·show 0 < (x2.ms ++ [_]).length; simp
  ·obtain rfl : k = 0 := by omega
   have e : x = mS a := i1
   subst e
   exact ⟨default, ⟨rfl, λ _ _ => rfl, rfl, rfl, rfl, Nat.le_refl _, λ _ _ => ⟨rfl, rfl⟩, rfl, Nat.le_refl _, λ _ _ => rfl, rfl, Nat.le_refl _, λ _ _ => rfl, rfl, Nat.le_refl _, λ _ _ => rfl⟩, i1, i2, i3, i4, i5, i6, i7⟩
 ·intro hF'
  obtain ⟨f1, f2, f3, f4, f5, f6, f7⟩ := hF'
  have hF' : fin6 a := ⟨f1, f2, f3, f4, f5, f6, f7⟩
  have fm : ((mS a).ms.length : Int) <= a.m := by omega
  refine ⟨⟨⟨⟨0, ⟨(mS a).s, []⟩⟩, ⟨rfl, rfl, λ _ _ => rfl, rfl, rfl⟩, ⟨hF', Nat.zero_le _, f3.mono (by show 7 + 7 * (a.m - ((0 : Nat) : Int)) <= 7 + 7 * a.m + 5 * ((0 : Nat) : Int); omega), rfl, Nat.le_refl _⟩, rfl⟩, ?_, ?_⟩, ?_, ?_⟩
  ·rintro ⟨i, x⟩ ⟨⟨_, g1, g2, g3, g4⟩, g5⟩
   dsimp only at g1 g2 g3 g4 g5 ⊢
   have s1 := g2.next (by omega) 2
   refine ⟨λ hc => ?_, λ hc => ?_⟩
   ·have hi := n_lt hc
    refine ⟨⟨⟨⟨rfl, g2.used.1⟩, ⟨i, ⟨AQ x.s 2, x.ns⟩, AN x.s 2 == 0⟩, ⟨rfl, rfl, rfl, λ _ _ => rfl, rfl, rfl⟩, ⟨hF', ⟨hi, rfl⟩, s1.mono (by show 7 + 7 * a.m + 5 * (i : Int) + 1 <= 8 + 7 * a.m + 5 * (i : Int); omega), (CSW hi).symm.trans g3, g4⟩, g5⟩, ?_⟩, ?_, ?_⟩
    ·rintro ⟨i2, x2, b2⟩ ⟨⟨_, ⟨q1, q2⟩, q3, q4, q5⟩, q6⟩
     dsimp only at q1 q2 q3 q4 q5 q6 ⊢
     have t1 := q3.next (by omega) 40
     have t2 := t1.next (by omega) 40
     have t3 := t2.next (by omega) 9
     have t4 := t3.next (by omega) 9
     refine ⟨λ hb2 => ?_, λ hb2 => ?_⟩
     ·subst hb2
      refine ⟨⟨⟨by omega, by omega⟩, rfl, q3.used.1, ⟨by omega, by omega⟩, rfl, t1.used.1, ⟨by omega, by omega⟩, rfl, t2.used.1, ⟨by omega, by omega⟩, rfl, t3.used.1, by decide⟩, ⟨i2, ⟨nS5 x2.s, x2.ns ++ [mkNt a x2.s i2]⟩⟩, ⟨rfl, rfl, λ _ _ => rfl, rfl, rfl, by rw [q6]; rfl, by rw [q6]; rfl, λ j hj => ?_⟩, ⟨hF', ⟨q1, q2⟩, t4.mono (by show 8 + 7 * a.m + 5 * (i2 : Int) + 1 + 1 + 1 + 1 <= 12 + 7 * a.m + 5 * (i2 : Int); omega), q4, ?_⟩, ?_⟩
      ·rw [q6] at hj ⊢
       have hj : j < 1 := hj
       obtain rfl : j = 0 := by omega
       exact ⟨rfl, rfl, rfl, rfl, rfl⟩
      ·show (x2.ns ++ [_]).length <= i2 + 1; rw [q6]; simp
      ·show 0 < (x2.ns ++ [_]).length; simp
     ·subst hb2
      exact ⟨⟨i2, x2⟩, ⟨rfl, rfl, λ _ _ => rfl, rfl, rfl⟩, ⟨hF', ⟨q1, q2⟩, q3.mono (by show 8 + 7 * a.m + 5 * (i2 : Int) <= 12 + 7 * a.m + 5 * (i2 : Int); omega), q4, Nat.le_succ_of_le q5⟩, q6⟩
    ·rintro ⟨i2, x2⟩ ⟨⟨_, ⟨q1, q2⟩, q3, q4, q5⟩, q6⟩
     dsimp only at q1 q2 q3 q4 q5 q6 ⊢
     exact ⟨⟨i2 + 1, x2⟩, ⟨(FE (by omega)).symm, rfl, λ _ _ => rfl, rfl, rfl⟩, ⟨⟨hF', by show i2 + 1 <= _; omega, q3.mono (by show 12 + 7 * a.m + 5 * (i2 : Int) <= 7 + 7 * a.m + 5 * ((i2 + 1 : Nat) : Int); omega), q4, q5⟩, q6⟩, by show 100 - (i2 + 1) < 100 - i; omega⟩
    ·rintro ⟨i2, x2⟩ ⟨⟨_, ⟨q1, q2⟩, q3, q4, q5⟩, q6⟩
     dsimp only at q1 q2 q3 q4 q5 q6 ⊢
     exact ⟨⟨i2 + 1, x2⟩, ⟨(FE (by omega)).symm, rfl, λ _ _ => rfl, rfl, rfl, rfl, rfl, λ _ _ => ⟨rfl, rfl, rfl, rfl, rfl⟩⟩, ⟨⟨hF', by show i2 + 1 <= _; omega, q3.mono (by show 12 + 7 * a.m + 5 * (i2 : Int) <= 7 + 7 * a.m + 5 * ((i2 + 1 : Nat) : Int); omega), q4, q5⟩, q6⟩, by show 100 - (i2 + 1) < 100 - i; omega⟩
   ·have hi := n_ge (by decide) hc
    obtain rfl : i = (mS a).ms.length := by omega
    rw [Nat.sub_self] at g3
    have e : x = JV a := g3
    subst e
    exact ⟨default, ⟨rfl, λ _ _ => rfl, rfl, rfl⟩, hF', g5⟩
  ·rintro ⟨i, x⟩ ⟨⟨_, g1, g2, g3, g4⟩, g5⟩
   dsimp only at g1 g2 g3 g4 g5 ⊢
   have s1 := g2.next (by omega) 2
   refine ⟨λ hc => ?_, λ hc => ?_⟩
   ·have hi := n_lt hc
    refine ⟨⟨⟨⟨rfl, g2.used.1⟩, ⟨i, ⟨AQ x.s 2, x.ns⟩, AN x.s 2 == 0⟩, ⟨rfl, rfl, rfl, λ _ _ => rfl, rfl, rfl, rfl, rfl, λ _ _ => ⟨rfl, rfl, rfl, rfl, rfl⟩⟩, ⟨hF', ⟨hi, rfl⟩, s1.mono (by show 7 + 7 * a.m + 5 * (i : Int) + 1 <= 8 + 7 * a.m + 5 * (i : Int); omega), (CSW hi).symm.trans g3, g4⟩, g5⟩, ?_⟩, ?_⟩
    ·rintro ⟨i2, x2, b2⟩ ⟨⟨_, ⟨q1, q2⟩, q3, q4, q5⟩, q6⟩
     dsimp only at q1 q2 q3 q4 q5 q6 ⊢
     have t1 := q3.next (by omega) 40
     have t2 := t1.next (by omega) 40
     have t3 := t2.next (by omega) 9
     have t4 := t3.next (by omega) 9
     refine ⟨λ hb2 => ?_, λ hb2 => ?_⟩
     ·subst hb2
      refine ⟨⟨⟨by omega, by omega⟩, rfl, q3.used.1, ⟨by omega, by omega⟩, rfl, t1.used.1, ⟨by omega, by omega⟩, rfl, t2.used.1, ⟨by omega, by omega⟩, rfl, t3.used.1, Nat.one_pos, (λ h => by cases h), by omega, by omega⟩, ⟨i2, ⟨nS5 x2.s, x2.ns ++ [mkNt a x2.s i2]⟩⟩, ⟨rfl, rfl, λ _ _ => rfl, rfl, rfl, by simp, by simp, λ j hj => ?_⟩, ⟨hF', ⟨q1, q2⟩, t4.mono (by show 8 + 7 * a.m + 5 * (i2 : Int) + 1 + 1 + 1 + 1 <= 12 + 7 * a.m + 5 * (i2 : Int); omega), q4, ?_⟩, ?_⟩
      ·have hj : j < (x2.ns ++ [mkNt a x2.s i2]).length := hj
       rw [List.length_append] at hj
       show (gD (x2.ns ++ [_]) j).mi = _ /\ (gD (x2.ns ++ [_]) j).t.lo = _ /\ (gD (x2.ns ++ [_]) j).t.hi = _ /\ (gD (x2.ns ++ [_]) j).s.lo = _ /\ (gD (x2.ns ++ [_]) j).s.hi = _
       rw [HY _ _ _ (by simpa using hj)]
       cases decide (j < x2.ns.length) <;> exact ⟨rfl, rfl, rfl, rfl, rfl⟩
      ·show (x2.ns ++ [_]).length <= i2 + 1; simp; omega
      ·show 0 < (x2.ns ++ [_]).length; simp
     ·subst hb2
      exact ⟨⟨i2, x2⟩, ⟨rfl, rfl, λ _ _ => rfl, rfl, rfl, rfl, rfl, λ _ _ => ⟨rfl, rfl, rfl, rfl, rfl⟩⟩, ⟨hF', ⟨q1, q2⟩, q3.mono (by show 8 + 7 * a.m + 5 * (i2 : Int) <= 12 + 7 * a.m + 5 * (i2 : Int); omega), q4, Nat.le_succ_of_le q5⟩, q6⟩
    ·rintro ⟨i2, x2⟩ ⟨⟨_, ⟨q1, q2⟩, q3, q4, q5⟩, q6⟩
     dsimp only at q1 q2 q3 q4 q5 q6 ⊢
     exact ⟨⟨i2 + 1, x2⟩, ⟨(FE (by omega)).symm, rfl, λ _ _ => rfl, rfl, rfl, rfl, rfl, λ _ _ => ⟨rfl, rfl, rfl, rfl, rfl⟩⟩, ⟨⟨hF', by show i2 + 1 <= _; omega, q3.mono (by show 12 + 7 * a.m + 5 * (i2 : Int) <= 7 + 7 * a.m + 5 * ((i2 + 1 : Nat) : Int); omega), q4, q5⟩, q6⟩, by show 100 - (i2 + 1) < 100 - i; omega⟩
   ·have hi := n_ge (by omega) hc
    obtain rfl : i = (mS a).ms.length := by omega
    rw [Nat.sub_self] at g3
    have e : x = JV a := g3
    subst e
    exact ⟨default, ⟨rfl, λ _ _ => rfl, rfl, rfl, rfl, rfl, λ _ _ => ⟨rfl, rfl, rfl, rfl, rfl⟩⟩, hF', g2.mono (by omega), g5, by omega⟩
  ·rintro ⟨_, e0⟩
   have em : mE a = JV a := by unfold mE; rw [e0]; rfl
   have en : (mE a).ns = [] := by rw [em]; exact e0
   have el : (GQ a).ns.length = 0 := by show (mE a).ns.length = 0; rw [en]; rfl
   refine ⟨⟨default, ⟨by rw [em], λ _ _ => by rw [em], by rw [em], by rw [em]⟩, en⟩, λ _ => ⟨rfl, rfl, rfl, rfl, rfl, rfl, λ _ _ => ⟨rfl, rfl⟩, el, el, rfl, λ _ _ => rfl, rfl, λ _ _ => rfl, rfl, λ _ _ => rfl⟩⟩
  ·rintro ⟨_, e1, e2, e3⟩
   refine ⟨⟨⟨(JV a).ns.length - 1, JV a⟩, ⟨?_, rfl, λ _ _ => rfl, rfl, rfl, rfl, rfl, λ _ _ => ⟨rfl, rfl, rfl, rfl, rfl⟩⟩, hF', by show (JV a).ns.length - 1 < (JV a).ns.length; omega, e1.mono ?_, rfl, e3⟩, ?_⟩
   ·rw [CP (by omega) (by omega)]; show (((JV a).ns.length - 1 : Nat) : Int) = _; omega
   ·show 7 + 7 * a.m + 5 * a.m <= 7 + 7 * a.m + 5 * a.m + a.m - (((JV a).ns.length - 1 : Nat) : Int); omega
   ·rintro ⟨i, x⟩ ⟨_, r1, r2, r3, r4⟩
    dsimp only at r1 r2 r3 r4 ⊢
    refine ⟨λ hi => ?_, λ hi => ?_⟩
    ·obtain ⟨j, rfl⟩ : ∃ j, i = j + 1 := ⟨i - 1, by omega⟩
     have ew : IntKind.i64.wrap (((j + 1 : Nat) : Int) + 1) = (j : Int) + 2 := by rw [CP (by omega) (by omega)]; omega
     have ew2 : IntKind.i64.wrap (((j + 1 : Nat) : Int) - 1) = (j : Int) := by rw [CP (by omega) (by omega)]; omega
     have hv := FN r2 (by omega) ((j : Int) + 2)
     have hv2 := hv.2 (by omega)
     rw [ew, ew2]
     have hk : (AN x.s ((j : Int) + 2)).toNat < x.ns.length := by omega
     refine ⟨r2.used.1, ⟨⟨hv.1, by omega⟩, hk, ⟨by omega, by omega⟩, r1, ⟨by omega, by omega⟩, r1, ⟨hv.1, by omega⟩, hk⟩, ⟨j, ⟨AQ x.s ((j : Int) + 2), swN x.ns (j + 1) (AN x.s ((j : Int) + 2)).toNat⟩⟩, ⟨rfl, rfl, λ _ _ => rfl, rfl, rfl, WF _ _ _, WF _ _ _, λ t ht => ?_⟩, ⟨hF', ?_, (r2.next (by omega) _).mono ?_, r3, ?_⟩, Nat.lt_succ_self _⟩
     ·have e := CJE (l := x.ns) (i := j + 1) (k := (AN x.s ((j : Int) + 2)).toNat) r1 hk (t := t)
      show (gD (swN x.ns (j + 1) _) t).mi = _ /\ (gD (swN x.ns (j + 1) _) t).t.lo = _ /\ (gD (swN x.ns (j + 1) _) t).t.hi = _ /\ (gD (swN x.ns (j + 1) _) t).s.lo = _ /\ (gD (swN x.ns (j + 1) _) t).s.hi = _
      rw [e]
      cases decide (t = (AN x.s ((j : Int) + 2)).toNat) <;> cases decide (t = j + 1) <;> exact ⟨rfl, rfl, rfl, rfl, rfl⟩
     ·show j < (swN x.ns _ _).length; rw [WF]; omega
     ·show 7 + 7 * a.m + 5 * a.m + a.m - ((j + 1 : Nat) : Int) + 1 <= 7 + 7 * a.m + 5 * a.m + a.m - (j : Int); omega
     ·show ((swN x.ns _ _).length : Int) <= _; rw [WF]; exact r4
    ·obtain rfl : i = 0 := by omega
     have e : x = mE a := r3
     subst e
     exact ⟨rfl, rfl, rfl, rfl, rfl, rfl, λ _ _ => ⟨rfl, rfl⟩, rfl, Nat.le_refl _, λ _ _ => ⟨rfl, rfl, rfl, rfl, rfl⟩, rfl, λ _ _ => rfl, rfl, λ _ _ => rfl, rfl, λ _ _ => rfl, rfl, λ _ _ => rfl, rfl, rfl⟩
theorem BVP : AL Try.prog CAK ((nS true).spec (dMkI true)) := KV (nS true) (CFX true) [] [305] CMU (λ _ => by kernel_rfl) (λ _ => AD CBU (AD CEY AI)) (λ (a : MkI) h => COG a (show preM a /\ a.b = true from h).1 (show preM a /\ a.b = true from h).2) (λ _ => MD rfl rfl) _
end Go.Bal
