/- Package chart: charts that are made of numbers, without stops. -/
import Derived.Test.YtdbjalgfomknhaaChW
import Derived.Test.YtdbjalgfomknhaaChK
set_option linter.unusedVariables false
set_option linter.unusedSimpArgs false
namespace Go.Bal
open Go Go.Sym Go.Proofs
theorem CFD (s : Stm) : Stm.mk s.bs s.used s.mix = s := rfl
theorem IE {K : Int} {s : Stm} (h : StmB K s) (hK : K <= 1000000000000000) (lo hi : Int) : StmB (K + 1) (KR s lo hi) := h.next hK _
theorem BQA {a : MkI} (h : preM a) : StmB 1 (gS1 a.s) /\ StmB 2 (gS2 a.s) /\ StmB 3 (gS3 a.s) /\ StmB 4 (gS4 a.s) /\ StmB 5 (gS5 a.s) /\ StmB 6 (gS6 a.s) := by
 have b1 : StmB 1 (gS1 a.s) := (IE h.1 (by omega) 1 12).mono (by omega)
 have b2 : StmB 2 (gS2 a.s) := (IE b1 (by omega) (-50) 400).mono (by omega)
 have b3 : StmB 3 (gS3 a.s) := (b2.next (by omega) 12).mono (by omega)
 have b4 : StmB 4 (gS4 a.s) := (b3.next (by omega) 9).mono (by omega)
 have b5 : StmB 5 (gS5 a.s) := (b4.next (by omega) 6).mono (by omega)
 exact ⟨b1, b2, b3, b4, b5, (b5.next (by omega) 300).mono (by omega)⟩
theorem CJE {a : MkI} (h : preM a) : (mN a : Int) = TF (gS6 a.s) 1 a.m /\ 1 <= mN a /\ (mN a : Int) <= a.m := by
 obtain ⟨_, _, _, _, _, b6⟩ := BQA h
 obtain ⟨_, m1, m2⟩ := h
 have := aL b6 (by omega) (lo := 1) (hi := a.m) (by omega) m1 (by omega)
 unfold mN; omega
theorem go_0 {a : MkI} {x : MS} (h : x.ms = []) : goM a x = x := by unfold goM; rw [h]; rfl
theorem go_1 {a : MkI} {x : MS} (h : 0 < x.ms.length) : goM a x = advZ a (advA a x) := by unfold goM; rw [decide_eq_true h]; rfl
theorem CNP {a : MkI} {k : Nat} {x : MS} (h : 0 < k) : Je a k x = Je a (k - 1) (addM a (goM a x)) := by
 obtain ⟨n, rfl⟩ : ∃ n, k = n + 1 := ⟨k - 1, by omega⟩
 rfl
theorem n_lt {i n k : Nat} (h : (bif decide ((i : Int) < n) then decide ((k : Int) < 20) else false) = true) : i < n := by
 cases hd : decide ((i : Int) < n) with
 | false => rw [hd] at h; cases h
 | true => have := of_decide_eq_true hd; omega
theorem n_ge {i n k : Nat} (hk : k < 20) (h : (bif decide ((i : Int) < n) then decide ((k : Int) < 20) else false) = false) : ¬ i < n := by
 intro hi
 rw [decide_eq_true (show (i : Int) < n by omega), decide_eq_true (show (k : Int) < 20 by omega)] at h; cases h
theorem CVB {a : MkI} {i : Nat} {x : NSt} (h : i < (mS a).ms.length) : mkN a ((mS a).ms.length - i) i x = mkN a ((mS a).ms.length - (i + 1)) (i + 1) (addN a (AR x.s 2 == 0) i ⟨BD x.s 2, x.ns⟩) := by
 obtain ⟨n, hn⟩ : ∃ n, (mS a).ms.length - i = n + 1 := ⟨(mS a).ms.length - i - 1, by omega⟩
 rw [hn, show (mS a).ms.length - (i + 1) = n by omega]; rfl
theorem WX (l : List Nt) (i k : Nat) : (swN l i k).length = l.length := by simp [swN]
theorem CFF {l : List Nt} {j i : Nat} {x : Nt} (hj : j < l.length) : gD (l.set j x) i = bif decide (i = j) then x else gD l i := by
 unfold gD
 rw [List.getD_eq_getElem?_getD, List.getD_eq_getElem?_getD, List.getElem?_set]
 by_cases h : i = j
 ·subst h; simp [hj]
 ·simp [h, Ne.symm h]
theorem CMN {l : List Nt} {i k : Nat} (hi : i < l.length) (hk : k < l.length) {t : Nat} : gD (swN l i k) t = bif decide (t = k) then gD l i else bif decide (t = i) then gD l k else gD l t := by
 unfold swN
 rw [CFF (by simpa using hk), CFF hi]
set_option maxHeartbeats 4000000 in
theorem CQR (a : MkI) (h : preM a) (hb : a.b = false) : CES a := by
 obtain ⟨b1, b2, b3, b4, b5, b6⟩ := BQA h
 obtain ⟨n1, n2, n3⟩ := CJE h
 have m2 := h.2.2
 rw [CKJ]; delta dB AIP cS AEI AGQ Yn ADD Z9 U8 eU gV SR Dx gF Hf rF sP sL Em gO SF Gx NO mK Hv nL nO rU Fz kL TU Fq mF Gr iR AF AA AD Fe Gt mJ lQ In oK Ea qP nV Fk gS Is Es tG lS Fp pZ TM qN He Fh Hr Gw qB sR oI gB iQ gN Ei jZ qK rL rY oC qS lV kS Hy oY rJ tI Ik Iw ME rP oH Do Ht Eo Du rD TD Jc qD SH gW UN rK Iy qA iI Wf VJ Te Ld Ss OS Pq WR Nq Ph Nr Kn VP Ud Vf Ug Wa Lu Ua Kw Pg Nm Mh WV KD Qx Ti Lr Ka Qj Le Qt Wi Lw EN VU OT OC WF Wp Vg Jr WL Om OU VM St WI Jp Lm Wb Ra We Ky Wl Qf WN OO XD VK VL Mf Py Kh Ub OR Me HO EG EH EI EJ EL EO EK EF ID XO Qv Pf Od WY Rk XX Qu Vw Mv Kb OB Vl VF Vi Qh Oe Rv Pe JV Kz Jq Rs Mi PE PB WE Pt Sr Uz Ku Pa Qw Tm VQ Jv Rp Uq XS Uw Oa Lq PD Sa XJ Ut Tn OP Nl XQ Uy Nf Sy WJ Vp Jn Vh OZ Nn VD Pp Vm Ly WO Tj Qd Si XY Pu Kp Pj PI Vz XI Vc Qp Uj Ri OQ Pd XK Ry Tp Kt Qb Wc Ot Ni Rt Jm Up XZ Tq Lh OK Sz Mr Oo Wh Ny KC Ue Rg Tx Ux Wq Nj OG Mg VN Vv Pc Li Jk Qq Jt Rn WH Vs JZ Ns Mm Tv Rz WT Lb Mp Mz Mn Qk Mw Jw Kq Wj Xa VA VC Lc PF Nb VB Ow VX Nk KF WS JX XG Sb Pm Nh Ou UX Vt Th; simp only [CC, eq_self, implies_true, forall_const, CFD]
 refine ⟨⟨⟨rfl, rfl, h.1.used.1, rfl, rfl, b1.used.1, rfl, b2.used.1, rfl, b3.used.1⟩, default, ⟨rfl, λ _ _ => rfl, rfl, rfl, rfl, rfl, rfl, rfl⟩, b4⟩, λ _ => ⟨⟨⟨rfl, b4.used.1⟩, default, ⟨rfl, λ _ _ => rfl, rfl, rfl, rfl⟩, b5⟩, λ _ => ⟨⟨⟨rfl, b5.used.1⟩, default, ⟨rfl, rfl, λ _ _ => rfl, rfl, rfl⟩, b6⟩, λ _ => ⟨⟨⟨rfl, b6.used.1⟩, ⟨⟨mN a, mS0 a⟩, ⟨rfl, rfl, n1, rfl, λ _ _ => rfl, rfl, rfl⟩, ⟨rfl, n3, ?_, ?_, rfl, rfl, .inl rfl⟩, n2, rfl, rfl⟩, ?_, ?_⟩, ?_⟩⟩⟩⟩
 ·exact (IE b6 (by omega) 1 a.m).mono (by show 6 + 1 <= 7 + 7 * (a.m - (mN a : Int)); omega)
 ·show (((0 : Nat) : Int)) + (mN a : Int) <= a.m; omega
 ·rintro ⟨k, s, pl, tm, ms, t, st, z⟩ ⟨⟨i1, i2, i3, i4, i5, i6, i7⟩, j1, j2, j3⟩
  dsimp only at i1 i2 i3 i4 i5 i6 i7 j1 j2 j3 ⊢
  subst j2 j3
  obtain rfl : t = [] := List.length_eq_zero_iff.1 i5
  obtain rfl : st = [] := List.length_eq_zero_iff.1 i6
  refine ⟨λ _ => ⟨⟨⟨k, s, pl, tm, [], [], [], []⟩, ⟨rfl, rfl, rfl, rfl, λ _ _ => rfl, rfl, rfl⟩, ⟨?_, ⟨j1, i2⟩, i3.mono (by show 7 + 7 * (a.m - (k : Int)) <= 11 + 7 * (a.m - (k : Int)); omega), i4, rfl, rfl, Nat.le_refl _⟩, rfl, rfl⟩, ?_⟩, λ hk => absurd (show (k : Int) > 0 by omega) hk⟩
  ·rw [<- i1, CNP j1, go_0 rfl]
  ·rintro ⟨k, s, pl, tm, ms, t, st, z⟩ ⟨⟨q1, q2, q3, q4, q5, q6, q7⟩, p1, p2⟩
   dsimp only at q1 q2 q3 q4 q5 q6 q7 p1 p2 ⊢
   subst p1 p2
   obtain rfl : t = [] := List.length_eq_zero_iff.1 q5
   obtain rfl : st = [] := List.length_eq_zero_iff.1 q6
   have s1 := q3.next (by omega) 60
   refine ⟨⟨rfl, q3.used.1⟩, ⟨by decide, by decide, s1.used.1, by decide⟩, ⟨k - 1, addM a ⟨s, pl, tm, [], [], [], []⟩⟩, ⟨rfl, rfl, ?_, rfl, λ _ _ => rfl, rfl, rfl, rfl, rfl, rfl, rfl, λ i hi => ?_, rfl, λ i hi => ?_, rfl, λ i hi => ?_⟩, ⟨⟨q1, by show ((k - 1 : Nat) : Int) <= _; omega, (IE s1 (by omega) _ _).mono ?_, ?_, rfl, rfl, .inl rfl⟩, Nat.one_pos, rfl⟩, by show k - 1 + 20 < 100; omega⟩
   ·rw [FC (by omega) (by omega)]; show ((k - 1 : Nat) : Int) = _; omega
   ·have hi : i < 1 := hi
    obtain rfl : i = 0 := by omega
    exact ⟨rfl, rfl⟩
   ·have hi : i < 1 := hi
    obtain rfl : i = 0 := by omega
    rfl
   ·have hi : i < 1 := hi
    obtain rfl : i = 0 := by omega
    rfl
   ·show 11 + 7 * (a.m - (k : Int)) + 1 + 1 <= 7 + 7 * (a.m - ((k - 1 : Nat) : Int)); omega
   ·show ((1 : Nat) : Int) + ((k - 1 : Nat) : Int) <= a.m; omega
 ·rintro ⟨k, x⟩ ⟨⟨i1, i2, i3, i4, i5, i6, i7⟩, j1, j2⟩
  dsimp only at i1 i2 i3 i4 i5 i6 i7 j1 j2 ⊢
  have s1 := IE i3 (by omega) 1 30
  refine ⟨λ hk => ⟨⟨λ hm => ⟨⟨rfl, rfl, i3.used.1⟩, ⟨s1.used.1, ⟨k, advA a x⟩, ⟨rfl, rfl, rfl, rfl, λ _ _ => rfl, rfl, rfl, rfl, rfl, rfl, rfl, λ _ _ => ⟨rfl, rfl⟩, rfl, λ _ _ => rfl, rfl, λ _ _ => rfl⟩, ⟨?_, ⟨by show 0 < k; omega, i2⟩, (IE s1 (by omega) _ _).mono ?_, i4, i5, i6, ?_⟩, by show k + 19 < k + 20; omega, j1, j2⟩, ?_⟩, λ hm => absurd (show (x.ms.length : Int) > 0 by omega) hm⟩, ?_⟩, λ hk => ?_⟩
  ·exact (show _ = Je a k x by rw [CNP (k := k) (x := x) (by omega), go_1 j1]).trans i1
  ·show 7 + 7 * (a.m - (k : Int)) + 1 + 1 <= 9 + 7 * (a.m - (k : Int)); omega
  ·show x.z.length < x.ms.length; rw [j2]; exact j1
  ·rintro ⟨k2, x2⟩ ⟨⟨q1, q2, q3, q4, q5, q6, q7⟩, p0, p1, p2⟩
   dsimp only at q1 q2 q3 q4 q5 q6 q7 p0 p1 p2 ⊢
   have ez : advZ a x2 = x2 := by unfold advZ; rw [hb]; rfl
   rw [ez] at q1
   exact ⟨λ h => h, ⟨k2, x2⟩, ⟨rfl, rfl, rfl, rfl, λ _ _ => rfl, rfl, rfl, rfl, rfl, rfl, rfl, λ _ _ => ⟨rfl, rfl⟩, rfl, λ _ _ => rfl, rfl, λ _ _ => rfl⟩, ⟨q1, q2, q3.mono (by show 9 + 7 * (a.m - (k2 : Int)) <= 11 + 7 * (a.m - (k2 : Int)); omega), q4, q5, q6, Nat.le_of_lt q7⟩, p0, p1, p2⟩
  ·rintro ⟨k2, x2⟩ ⟨⟨q1, q2, q3, q4, q5, q6, q7⟩, p0, p1, p2⟩
   dsimp only at q1 q2 q3 q4 q5 q6 q7 p0 p1 p2 ⊢
   have s2 := q3.next (by omega) 60
   refine ⟨⟨rfl, q3.used.1⟩, ⟨⟨Nat.one_pos, (λ h => by cases h), by omega, by omega⟩, ⟨Nat.one_pos, (λ h => by cases h), by omega, by omega⟩, s2.used.1, Nat.one_pos, (λ h => by cases h), by omega, by omega⟩, ⟨k2 - 1, addM a x2⟩, ⟨rfl, rfl, ?_, rfl, λ _ _ => rfl, rfl, rfl, ?_, ?_, ?_, ?_, λ i hi => ?_, ?_, λ i hi => ?_, ?_, λ i hi => ?_⟩, ⟨⟨q1, by show ((k2 - 1 : Nat) : Int) <= _; omega, (IE s2 (by omega) _ _).mono ?_, ?_, ?_, ?_, .inl p2⟩, ?_, p2⟩, by show k2 - 1 + 20 < k + 20; omega⟩
   ·rw [FC (by omega) (by omega)]; show ((k2 - 1 : Nat) : Int) = _; omega
   ·show (x2.ms ++ [_]).length = _; simp
   ·show (x2.t ++ [_]).length = _; simp
   ·show (x2.st ++ [_]).length = _; simp
   ·show (x2.ms ++ [_]).length = _; simp
   ·have hi : i < (x2.ms ++ [_]).length := hi
    rw [List.length_append] at hi
    show (gD (x2.ms ++ [_]) i).pl = _ /\ (gD (x2.ms ++ [_]) i).ht = _
    rw [bU _ _ _ (by simpa using hi)]
    cases decide (i < x2.ms.length) <;> exact ⟨rfl, rfl⟩
   ·show (x2.t ++ [_]).length = _; simp
   ·have hi : i < (x2.t ++ [x2.tm]).length := hi
    rw [List.length_append] at hi
    show gD (x2.t ++ [_]) i = _
    rw [bU _ _ _ (by simpa using hi)]
   ·show (x2.st ++ [_]).length = _; simp
   ·have hi : i < (x2.st ++ [(0 : Int)]).length := by have := hi; simpa [addM] using this
    rw [List.length_append] at hi
    show gD (x2.st ++ [_]) i = _
    rw [bU _ _ _ (by simpa using hi)]; rfl
   ·show 11 + 7 * (a.m - (k2 : Int)) + 1 + 1 <= 7 + 7 * (a.m - ((k2 - 1 : Nat) : Int)); omega
   ·show (((x2.ms ++ [_]).length : Nat) : Int) + ((k2 - 1 : Nat) : Int) <= a.m
    rw [List.length_append]; simp; omega
   ·show (x2.t ++ [_]).length = (x2.ms ++ [_]).length; simp [q5]
   ·show (x2.st ++ [_]).length = (x2.ms ++ [_]).length; simp [q6]
   ·show 0 < (x2.ms ++ [_]).length; simp
  ·obtain rfl : k = 0 := by omega
   have e : x = mS a := i1
   subst e
   exact ⟨default, ⟨rfl, λ _ _ => rfl, rfl, rfl, rfl, Nat.le_refl _, λ _ _ => ⟨rfl, rfl⟩, rfl, Nat.le_refl _, λ _ _ => rfl, rfl, Nat.le_refl _, λ _ _ => rfl, by rw [j2]; rfl⟩, i1, i2, i3, i4, i5, i6, i7⟩
 ·intro hF'
  obtain ⟨f1, f2, f3, f4, f5, f6, f7⟩ := hF'
  have hF' : fin6 a := ⟨f1, f2, f3, f4, f5, f6, f7⟩
  have fm : ((mS a).ms.length : Int) <= a.m := by omega
  refine ⟨⟨⟨⟨0, ⟨(mS a).s, []⟩⟩, ⟨rfl, rfl, λ _ _ => rfl, rfl, rfl⟩, ⟨hF', Nat.zero_le _, f3.mono (by show 7 + 7 * (a.m - ((0 : Nat) : Int)) <= 7 + 7 * a.m + 5 * ((0 : Nat) : Int); omega), rfl, Nat.le_refl _⟩, rfl⟩, ?_, ?_⟩, ?_, ?_⟩
  ·rintro ⟨i, x⟩ ⟨⟨_, g1, g2, g3, g4⟩, g5⟩
   dsimp only at g1 g2 g3 g4 g5 ⊢
   have s1 := g2.next (by omega) 2
   refine ⟨λ hc => ?_, λ hc => ?_⟩
   ·have hi := n_lt hc
    refine ⟨⟨⟨⟨rfl, g2.used.1⟩, ⟨i, ⟨BD x.s 2, x.ns⟩, AR x.s 2 == 0⟩, ⟨rfl, rfl, rfl, λ _ _ => rfl, rfl, rfl⟩, ⟨hF', ⟨hi, rfl⟩, s1.mono (by show 7 + 7 * a.m + 5 * (i : Int) + 1 <= 8 + 7 * a.m + 5 * (i : Int); omega), (CVB hi).symm.trans g3, g4⟩, g5⟩, ?_⟩, ?_, ?_⟩
    ·rintro ⟨i2, x2, b2⟩ ⟨⟨_, ⟨q1, q2⟩, q3, q4, q5⟩, q6⟩
     dsimp only at q1 q2 q3 q4 q5 q6 ⊢
     have t1 := q3.next (by omega) 40
     have t2 := t1.next (by omega) 40
     have t3 := t2.next (by omega) 9
     have t4 := t3.next (by omega) 9
     refine ⟨λ hb2 => ?_, λ hb2 => ?_⟩
     ·subst hb2
      refine ⟨⟨⟨by omega, by omega⟩, rfl, q3.used.1, ⟨by omega, by omega⟩, rfl, t1.used.1, ⟨by omega, by omega⟩, rfl, t2.used.1, ⟨by omega, by omega⟩, rfl, t3.used.1, by decide⟩, ⟨i2, ⟨nS5 x2.s, x2.ns ++ [mkNt a x2.s i2]⟩⟩, ⟨rfl, rfl, λ _ _ => rfl, rfl, rfl, by rw [q6]; rfl, by rw [q6]; rfl, λ j hj => ?_⟩, ⟨hF', ⟨q1, q2⟩, t4.mono (by show 8 + 7 * a.m + 5 * (i2 : Int) + 1 + 1 + 1 + 1 <= 12 + 7 * a.m + 5 * (i2 : Int); omega), q4, ?_⟩, ?_⟩
      ·rw [q6] at hj ⊢
       have hj : j < 1 := hj
       obtain rfl : j = 0 := by omega
       exact ⟨rfl, rfl, rfl, rfl, rfl⟩
      ·show (x2.ns ++ [_]).length <= i2 + 1; rw [q6]; simp
      ·show 0 < (x2.ns ++ [_]).length; simp
     ·subst hb2
      exact ⟨⟨i2, x2⟩, ⟨rfl, rfl, λ _ _ => rfl, rfl, rfl⟩, ⟨hF', ⟨q1, q2⟩, q3.mono (by show 8 + 7 * a.m + 5 * (i2 : Int) <= 12 + 7 * a.m + 5 * (i2 : Int); omega), q4, Nat.le_succ_of_le q5⟩, q6⟩
    ·rintro ⟨i2, x2⟩ ⟨⟨_, ⟨q1, q2⟩, q3, q4, q5⟩, q6⟩
     dsimp only at q1 q2 q3 q4 q5 q6 ⊢
     exact ⟨⟨i2 + 1, x2⟩, ⟨(GK (by omega)).symm, rfl, λ _ _ => rfl, rfl, rfl⟩, ⟨⟨hF', by show i2 + 1 <= _; omega, q3.mono (by show 12 + 7 * a.m + 5 * (i2 : Int) <= 7 + 7 * a.m + 5 * ((i2 + 1 : Nat) : Int); omega), q4, q5⟩, q6⟩, by show 100 - (i2 + 1) < 100 - i; omega⟩
    ·rintro ⟨i2, x2⟩ ⟨⟨_, ⟨q1, q2⟩, q3, q4, q5⟩, q6⟩
     dsimp only at q1 q2 q3 q4 q5 q6 ⊢
     exact ⟨⟨i2 + 1, x2⟩, ⟨(GK (by omega)).symm, rfl, λ _ _ => rfl, rfl, rfl, rfl, rfl, λ _ _ => ⟨rfl, rfl, rfl, rfl, rfl⟩⟩, ⟨⟨hF', by show i2 + 1 <= _; omega, q3.mono (by show 12 + 7 * a.m + 5 * (i2 : Int) <= 7 + 7 * a.m + 5 * ((i2 + 1 : Nat) : Int); omega), q4, q5⟩, q6⟩, by show 100 - (i2 + 1) < 100 - i; omega⟩
   ·have hi := n_ge (by decide) hc
    obtain rfl : i = (mS a).ms.length := by omega
    rw [Nat.sub_self] at g3
    have e : x = KA a := g3
    subst e
    exact ⟨default, ⟨rfl, λ _ _ => rfl, rfl, rfl⟩, hF', g5⟩
  ·rintro ⟨i, x⟩ ⟨⟨_, g1, g2, g3, g4⟩, g5⟩
   dsimp only at g1 g2 g3 g4 g5 ⊢
   have s1 := g2.next (by omega) 2
   refine ⟨λ hc => ?_, λ hc => ?_⟩
   ·have hi := n_lt hc
    refine ⟨⟨⟨⟨rfl, g2.used.1⟩, ⟨i, ⟨BD x.s 2, x.ns⟩, AR x.s 2 == 0⟩, ⟨rfl, rfl, rfl, λ _ _ => rfl, rfl, rfl, rfl, rfl, λ _ _ => ⟨rfl, rfl, rfl, rfl, rfl⟩⟩, ⟨hF', ⟨hi, rfl⟩, s1.mono (by show 7 + 7 * a.m + 5 * (i : Int) + 1 <= 8 + 7 * a.m + 5 * (i : Int); omega), (CVB hi).symm.trans g3, g4⟩, g5⟩, ?_⟩, ?_⟩
    ·rintro ⟨i2, x2, b2⟩ ⟨⟨_, ⟨q1, q2⟩, q3, q4, q5⟩, q6⟩
     dsimp only at q1 q2 q3 q4 q5 q6 ⊢
     have t1 := q3.next (by omega) 40
     have t2 := t1.next (by omega) 40
     have t3 := t2.next (by omega) 9
     have t4 := t3.next (by omega) 9
     refine ⟨λ hb2 => ?_, λ hb2 => ?_⟩
     ·subst hb2
      refine ⟨⟨⟨by omega, by omega⟩, rfl, q3.used.1, ⟨by omega, by omega⟩, rfl, t1.used.1, ⟨by omega, by omega⟩, rfl, t2.used.1, ⟨by omega, by omega⟩, rfl, t3.used.1, Nat.one_pos, (λ h => by cases h), by omega, by omega⟩, ⟨i2, ⟨nS5 x2.s, x2.ns ++ [mkNt a x2.s i2]⟩⟩, ⟨rfl, rfl, λ _ _ => rfl, rfl, rfl, by simp, by simp, λ j hj => ?_⟩, ⟨hF', ⟨q1, q2⟩, t4.mono (by show 8 + 7 * a.m + 5 * (i2 : Int) + 1 + 1 + 1 + 1 <= 12 + 7 * a.m + 5 * (i2 : Int); omega), q4, ?_⟩, ?_⟩
      ·have hj : j < (x2.ns ++ [mkNt a x2.s i2]).length := hj
       rw [List.length_append] at hj
       show (gD (x2.ns ++ [_]) j).mi = _ /\ (gD (x2.ns ++ [_]) j).t.lo = _ /\ (gD (x2.ns ++ [_]) j).t.hi = _ /\ (gD (x2.ns ++ [_]) j).s.lo = _ /\ (gD (x2.ns ++ [_]) j).s.hi = _
       rw [bU _ _ _ (by simpa using hj)]
       cases decide (j < x2.ns.length) <;> exact ⟨rfl, rfl, rfl, rfl, rfl⟩
      ·show (x2.ns ++ [_]).length <= i2 + 1; simp; omega
      ·show 0 < (x2.ns ++ [_]).length; simp
     ·subst hb2
      exact ⟨⟨i2, x2⟩, ⟨rfl, rfl, λ _ _ => rfl, rfl, rfl, rfl, rfl, λ _ _ => ⟨rfl, rfl, rfl, rfl, rfl⟩⟩, ⟨hF', ⟨q1, q2⟩, q3.mono (by show 8 + 7 * a.m + 5 * (i2 : Int) <= 12 + 7 * a.m + 5 * (i2 : Int); omega), q4, Nat.le_succ_of_le q5⟩, q6⟩
    ·rintro ⟨i2, x2⟩ ⟨⟨_, ⟨q1, q2⟩, q3, q4, q5⟩, q6⟩
     dsimp only at q1 q2 q3 q4 q5 q6 ⊢
     exact ⟨⟨i2 + 1, x2⟩, ⟨(GK (by omega)).symm, rfl, λ _ _ => rfl, rfl, rfl, rfl, rfl, λ _ _ => ⟨rfl, rfl, rfl, rfl, rfl⟩⟩, ⟨⟨hF', by show i2 + 1 <= _; omega, q3.mono (by show 12 + 7 * a.m + 5 * (i2 : Int) <= 7 + 7 * a.m + 5 * ((i2 + 1 : Nat) : Int); omega), q4, q5⟩, q6⟩, by show 100 - (i2 + 1) < 100 - i; omega⟩
   ·have hi := n_ge (by omega) hc
    obtain rfl : i = (mS a).ms.length := by omega
    rw [Nat.sub_self] at g3
    have e : x = KA a := g3
    subst e
    exact ⟨default, ⟨rfl, λ _ _ => rfl, rfl, rfl, rfl, rfl, λ _ _ => ⟨rfl, rfl, rfl, rfl, rfl⟩⟩, hF', g2.mono (by omega), g5, by omega⟩
  ·rintro ⟨_, e0⟩
   have em : mE a = KA a := by unfold mE; rw [e0]; rfl
   have en : (mE a).ns = [] := by rw [em]; exact e0
   have el : (HG a).ns.length = 0 := by show (mE a).ns.length = 0; rw [en]; rfl
   refine ⟨⟨default, ⟨by rw [em], λ _ _ => by rw [em], by rw [em], by rw [em]⟩, en⟩, λ _ => ⟨rfl, rfl, rfl, rfl, rfl, rfl, λ _ _ => ⟨rfl, rfl⟩, el, el, rfl, λ _ _ => rfl, rfl, λ _ _ => rfl, rfl, λ _ _ => rfl⟩⟩
  ·rintro ⟨_, e1, e2, e3⟩
   refine ⟨⟨⟨(KA a).ns.length - 1, KA a⟩, ⟨?_, rfl, λ _ _ => rfl, rfl, rfl, rfl, rfl, λ _ _ => ⟨rfl, rfl, rfl, rfl, rfl⟩⟩, hF', by show (KA a).ns.length - 1 < (KA a).ns.length; omega, e1.mono ?_, rfl, e3⟩, ?_⟩
   ·rw [FC (by omega) (by omega)]; show (((KA a).ns.length - 1 : Nat) : Int) = _; omega
   ·show 7 + 7 * a.m + 5 * a.m <= 7 + 7 * a.m + 5 * a.m + a.m - (((KA a).ns.length - 1 : Nat) : Int); omega
   ·rintro ⟨i, x⟩ ⟨_, r1, r2, r3, r4⟩
    dsimp only at r1 r2 r3 r4 ⊢
    refine ⟨λ hi => ?_, λ hi => ?_⟩
    ·obtain ⟨j, rfl⟩ : ∃ j, i = j + 1 := ⟨i - 1, by omega⟩
     have ew : IntKind.i64.wrap (((j + 1 : Nat) : Int) + 1) = (j : Int) + 2 := by rw [FC (by omega) (by omega)]; omega
     have ew2 : IntKind.i64.wrap (((j + 1 : Nat) : Int) - 1) = (j : Int) := by rw [FC (by omega) (by omega)]; omega
     have hv := GD r2 (by omega) ((j : Int) + 2)
     have hv2 := hv.2 (by omega)
     rw [ew, ew2]
     have hk : (AR x.s ((j : Int) + 2)).toNat < x.ns.length := by omega
     refine ⟨r2.used.1, ⟨⟨hv.1, by omega⟩, hk, ⟨by omega, by omega⟩, r1, ⟨by omega, by omega⟩, r1, ⟨hv.1, by omega⟩, hk⟩, ⟨j, ⟨BD x.s ((j : Int) + 2), swN x.ns (j + 1) (AR x.s ((j : Int) + 2)).toNat⟩⟩, ⟨rfl, rfl, λ _ _ => rfl, rfl, rfl, WX _ _ _, WX _ _ _, λ t ht => ?_⟩, ⟨hF', ?_, (r2.next (by omega) _).mono ?_, r3, ?_⟩, Nat.lt_succ_self _⟩
     ·have e := CMN (l := x.ns) (i := j + 1) (k := (AR x.s ((j : Int) + 2)).toNat) r1 hk (t := t)
      show (gD (swN x.ns (j + 1) _) t).mi = _ /\ (gD (swN x.ns (j + 1) _) t).t.lo = _ /\ (gD (swN x.ns (j + 1) _) t).t.hi = _ /\ (gD (swN x.ns (j + 1) _) t).s.lo = _ /\ (gD (swN x.ns (j + 1) _) t).s.hi = _
      rw [e]
      cases decide (t = (AR x.s ((j : Int) + 2)).toNat) <;> cases decide (t = j + 1) <;> exact ⟨rfl, rfl, rfl, rfl, rfl⟩
     ·show j < (swN x.ns _ _).length; rw [WX]; omega
     ·show 7 + 7 * a.m + 5 * a.m + a.m - ((j + 1 : Nat) : Int) + 1 <= 7 + 7 * a.m + 5 * a.m + a.m - (j : Int); omega
     ·show ((swN x.ns _ _).length : Int) <= _; rw [WX]; exact r4
    ·obtain rfl : i = 0 := by omega
     have e : x = mE a := r3
     subst e
     exact ⟨rfl, rfl, rfl, rfl, rfl, rfl, λ _ _ => ⟨rfl, rfl⟩, rfl, Nat.le_refl _, λ _ _ => ⟨rfl, rfl, rfl, rfl, rfl⟩, rfl, λ _ _ => rfl, rfl, λ _ _ => rfl, rfl, λ _ _ => rfl, rfl, λ _ _ => rfl, rfl, rfl⟩
theorem CKC : AM Try.prog BZR ((kN false).spec (dMkI false)) := LM (kN false) (CME false) [] [305] CPM (λ _ => by kernel_rfl) (λ _ => AC CED (AC CHF AJ)) (λ (a : MkI) h => CQR a (show preM a /\ a.b = false from h).1 (show preM a /\ a.b = false from h).2) (λ _ => OA rfl rfl) _
end Go.Bal
