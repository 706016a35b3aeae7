/- Law RatingFewest: its walk goes through, if there is no break; the whole. -/
import Derived.Test.YtoihhodbkimedaaRFe2
set_option linter.unusedVariables false
set_option linter.unusedSimpArgs false
namespace Go.Bal
open Go Go.Sym Go.Proofs
set_option maxHeartbeats 4000000 in
theorem CGS (x : FwI) (K : FxOk x) (hk : (EK (Fi x)).k = []) : CAP x := by
 have hc := K.chk
 have hr := (BWG hc).1 hk
 have hL := K.len
 have hst := K.st
 have hcf := λ h => CEJ hc h
 have hW := λ h => BZL hc h
 rw [CEM]<;> delta KY hd5 hd7 Dc GH HK FK KZ KR LU MC KN Tu PN FA AO ZR AT CX AG CG CM EM BK DB DW DT QP PD RO FM PQ Ah YC wW Tg TU DM GP SA EF GF Cr KT WH NR pM Ie Is Ej Ll AR GE MO Cs Lz Lm xW Iq AAR Y7 ABY Wb NC AUJ xM KX Um bO bX Xk gV pN Wo Eu Ev Iu ANM ZL QE AZB iX Zl NH FL ABF EE Br Bt Wu LX KV Yn ND VV KK AE VZ KC yB FQ AJ Ut AP DR AU AK Bu BO JQ Z4 ABL Sr QS AJV Rw DK AX AQ AH AIS BH TA CY BN CL CZ CA KF DP FT GI AC BB ED QH IG WA Y3 QK BBE HI cG CQ EP DF FP MX WE TG CF ARD FC NT Lk DG EN AW Cu AY ZJ BAV Ma LW QI tZ ATS CJ pT DE DN AS EO EA HF ZI DS GN ON MY ASU QJ VA OL sW Lt Kc ASM JM EU VX AAW DV HP Ir BM FG CE MK CO KJ IA JN UQ BAJ QF pL AJT JG ASL JE AAI HG IF Vs IE pI MN MZ cH AIU LQ AZY RS Ix Ur Mb FH Zw NA An Ao IK XF BA Px BC BI APP oA Fv QY DD UF ADE JC EZ NY RT Yd Df RW Dg TW ER SI RU SF BJ ET SK FZ GZ ALU ANN qU Ld Ki IM Dx fH ME HJ Bv FD Af DH HC Gr Tr TN Cz FI FX zD AMJ SG LD GJ Db MR CN KO dK qT dX GA dF RC UX UY ZT PO SE tS MT RD FW SM Dl HM YB AEB FU Yu zQ Dk I0 AEC VM Md Eh RI NU LG MF QD RZ Jt cO UJ On Ra IR R8 TO Ti C4 Ug Ee Ft aQ Lc Ov AGV WU PC LP rA ACN Bn fW TY Bo qC MJ YY RH Ns kR Gi As fG Bg YO WY cR IZ Zh Gz dO Dz TI Xf Fu Fz Gp Kh Bm Td YW Kr dS Hc Eb Ae UH SJ Yl UV Fl Pf Ol Nx Nf AFR AET SC Pk Qx aO Ap Ak Mr VB Qw Nu L1 YS Gm Zb VC Oo Pj Vw nW Rg Oh Dn Za Xa bF Zj Yp Pw eD Yw dQ cV Xp eK Np Kq Vt Dj aN Jx Gd Ob YR kL Vq uC Ky Qo Gv Vv aF eI mJ oW kN nD Zf qQ lE Zs Yx Ye Wx kC Hs; simp only [CC, eq_self, implies_true, forall_const, AOG, BSW, Int.toNat_zero, Nat.sub_zero, Bool.and_eq_true, BBI, ATU]
 rw [BBI] at hr
 rw [ATU] at hk
 rw [BBI, ATU] at hW
 clear K
 generalize fxQ x = Q at *
 generalize fxR x = R at *
 generalize fxS x = s0 at *
 generalize Fi x = L at *
 have hb0 : R.b.length = 0 := by rw [hr]; rfl
 have w0 : IntKind.i64.wrap ((nilI.length : Int) + 1) = 1 := LS (by show -9223372036854775808 <= (0 : Int) + 1; omega) (by show (0 : Int) + 1 < 9223372036854775808; omega)
 have w3 : IntKind.i64.wrap ((nilI.length : Int) + 2) = 2 := LS (by show -9223372036854775808 <= (0 : Int) + 2; omega) (by show (0 : Int) + 2 < 9223372036854775808; omega)
 refine ⟨⟨by omega, hr⟩, ⟨by omega, hk⟩, λ h => ?_, λ _ => ⟨λ h => ?_, λ h => ?_⟩⟩
 ·by_cases h0 : (EK L).e = 0
  ·rw [h0] at h; cases h
  ·rw [(hcf h0).1] at h; cases h
 ·have h0 : (EK L).e ≠ 0 := by simpa using h
  obtain ⟨_, ci, cj, c1, c2, c3⟩ := hcf h0
  refine ⟨⟨0, rfl, h0, Nat.zero_le _, λ p q _ h => absurd h (Nat.not_lt_zero _)⟩, λ i ⟨i1, i2, i3⟩ => ⟨λ hlt => ⟨⟨⟨i, 0⟩, ⟨rfl, rfl⟩, i1, rfl, by show i < _; omega, i3, Nat.zero_le _, λ q h => absurd h (Nat.not_lt_zero _)⟩, λ y ⟨y1, y2, y3, y4, y5, y6⟩ => ⟨λ hj => ⟨⟨⟨by omega, by omega⟩, ⟨by omega, by omega⟩, λ _ => ⟨by omega, by omega⟩, λ _ => ⟨by omega, by omega⟩, λ _ => ⟨by omega, by omega⟩, λ _ => ⟨by omega, by omega⟩⟩, λ hf => ⟨⟨y.i, y.j + 1⟩, ⟨rfl, (EQ (by omega)).symm⟩, ⟨y1, y2, y3, y4, by show y.j + 1 <= y.i; omega, λ q hq => ?_⟩, by show y.i - (y.j + 1) < _; omega⟩⟩, λ hj => ⟨y.i + 1, (EQ (by omega)).symm, ⟨y1, by omega, λ p q h1 h2 => ?_⟩, by omega⟩⟩⟩, λ hge => ?_⟩⟩
  ·by_cases e : q = y.j
   ·rw [e]; exact hf
   ·exact y6 q (by have h2 : q < y.j + 1 := hq; omega)
  ·by_cases e : p = y.i
   ·rw [e] at h1 ⊢; exact y6 q (by omega)
   ·exact y4 p q h1 (by omega)
  ·have := i3 ci cj c1 (by omega)
   unfold cfB at this
   rw [c3] at this; cases this
 have he : (EK L).e = 0 := by simpa using h
 have W := hW he
 have hb := W.lt hc
 have lk := W.lenk
 have ll := W.lenl
 have pk : L.length < 1073741824 /\ 0 < 20 := ⟨by omega, by omega⟩
 have fE : ∀ {m : Int} {o : Bool}, bI ⟨L, m, nilK, o⟩ = 0 /\ lT ⟨L, m, nilK, o⟩ = decide (m <= 1) := λ {m o} => by
  obtain ⟨h1, h2⟩ := W.prv hc (show nilK.Perm Q by rw [hk]; exact List.Perm.refl _) m o
  rw [lk, hb0] at h2
  exact ⟨h1, h2⟩
 have wl : IntKind.i64.wrap ((R.l.length : Int) + 1) = 2 := by rw [ll, hb0]; exact LS (by show -9223372036854775808 <= (1 : Int) + 1; omega) (by show (1 : Int) + 1 < 9223372036854775808; omega)
 have z0 : ∀ {p : Nat -> Prop}, ∀ i, i < 0 -> p i := λ i h => absurd h (Nat.not_lt_zero _)
 have nV : ∀ {K : Int} {s : Stm}, StmB K s -> K <= 100000 -> 0 <= AV s (L.length : Int) /\ AV s (L.length : Int) < L.length := λ {K s} h hK => by
  have := NF h (by omega) (L.length : Int)
  exact ⟨this.1, this.2 (by omega)⟩
 have wv : ∀ {K : Int} {s : Stm}, StmB K s -> K <= 100000 -> 1 <= HR s 1 70 /\ HR s 1 70 <= 70 := λ {K s} h hK => bT h (by omega) (lo := 1) (hi := 70) (by omega) (by omega) (by omega)
 refine ⟨⟨pk, z0⟩, ⟨pk, z0⟩, λ h => ?_, λ _ => ⟨⟨default, trivial⟩, ⟨⟨0, s0⟩, ⟨rfl, rfl, λ _ _ => rfl, rfl, rfl⟩, by show 0 <= 5; omega, hst.mono (by show (30 : Int) <= 1000 + 100 * ((0 : Nat) : Int); omega)⟩, λ a ⟨a1, a2⟩ => ⟨λ hlt => ?_, λ hge => ?_⟩⟩⟩
 ·rw [wl, fE.1, fE.2, fE.1, fE.2, w0, ll, hb0] at h
  cases h
 ·have hlt : a.n < 5 := by omega
  have v1 := NF a2 (by omega) (IntKind.i64.wrap ((nilI.length : Int) + 2))
  have v1' := v1.2 (by omega)
  have hk1 : ((AV a.s (IntKind.i64.wrap ((nilI.length : Int) + 2))).toNat : Int) = AV a.s (IntKind.i64.wrap ((nilI.length : Int) + 2)) := Int.toNat_of_nonneg v1.1
  have s1 := a2.next (by omega) (IntKind.i64.wrap ((nilI.length : Int) + 2))
  have wk : ∀ {k : Nat}, 0 < k -> k < 100 -> ((k - 1 : Nat) : Int) = IntKind.i64.wrap ((k : Int) - 1) := λ {k} h1 h2 => by rw [LS (by omega) (by omega)]; omega
  refine ⟨⟨⟨rfl, a2.used.1⟩, ⟨⟨a.n, BG a.s (IntKind.i64.wrap ((nilI.length : Int) + 2)), [], (AV a.s (IntKind.i64.wrap ((nilI.length : Int) + 2))).toNat, 0⟩, ⟨rfl, hk1, rfl, λ _ _ => rfl, rfl, rfl⟩, ⟨rfl, hlt⟩, by show (AV a.s (IntKind.i64.wrap ((nilI.length : Int) + 2))).toNat <= _; omega, s1.mono (by show _ <= 1001 + 100 * (a.n : Int); omega)⟩, λ b ⟨⟨b1, b2⟩, b3, b4⟩ => ⟨λ hk => ?_, λ hk => ?_⟩, λ b ⟨⟨b1, b2⟩, ⟨b3, b4⟩, ⟨b5, b6⟩, b7, b8⟩ => ⟨λ hk => ?_, λ hk => ?_⟩⟩, λ b ⟨⟨b1, b2⟩, b3, b4, b5, b6⟩ => ?_⟩
  ·have v := wv b4 (by omega)
   have e : IntKind.i64.wrap (0 + HR b.s 1 70) = HR b.s 1 70 := by rw [LS (by omega) (by omega)]; omega
   rw [e]
   refine ⟨⟨rfl, rfl, b4.used.1⟩, ⟨by omega, by omega, by omega, by omega, by omega⟩, ⟨b.n, bK b.s 1 70, [HR b.s 1 70], b.k - 1, HR b.s 1 70⟩, ⟨rfl, rfl, rfl, wk (by omega) (by omega), rfl, λ _ _ => rfl, rfl, rfl, rfl, λ i hi => by rw [show i = 0 by have h1 : i < 1 := hi; omega]; rfl⟩, ⟨⟨b1, b2⟩, ⟨List.pairwise_singleton _ _, λ y hy => by rw [List.mem_singleton.1 hy]; show 1 <= HR b.s 1 70 /\ HR b.s 1 70 <= HR b.s 1 70; omega⟩, ⟨by show 0 <= HR b.s 1 70; omega, by show HR b.s 1 70 <= 70 * ((1 : Nat) : Int); omega⟩, by show 1 + (b.k - 1) <= _; omega, (VO b4 (by omega) 1 70).mono (by show _ <= 1001 + 100 * (b.n : Int) + ((1 : Nat) : Int); omega)⟩, by show b.k - 1 < b.k + 1; omega⟩
  ·exact ⟨⟨b.n, b.s, [], 0, 0⟩, ⟨rfl, rfl, rfl, rfl, λ _ _ => rfl, rfl, rfl⟩, ⟨b1, b2⟩, List.Pairwise.nil, λ y hy => by (cases hy), Nat.zero_le _, b4.mono (by show _ <= 1030 + 100 * (b.n : Int); omega)⟩
  ·have v := wv b8 (by omega)
   have e : IntKind.i64.wrap (b.t + HR b.s 1 70) = b.t + HR b.s 1 70 := by rw [LS (by omega) (by omega)]
   rw [e]
   refine ⟨⟨rfl, rfl, b8.used.1⟩, ⟨by omega, λ h => (by cases h), by omega, by omega⟩, ⟨b.n, bK b.s 1 70, b.q ++ [b.t + HR b.s 1 70], b.k - 1, b.t + HR b.s 1 70⟩, ⟨rfl, by simp, rfl, wk (by omega) (by omega), rfl, λ _ _ => rfl, rfl, rfl, by simp, BBT _ _⟩, ⟨⟨b1, b2⟩, ⟨List.pairwise_append.2 ⟨b3, List.pairwise_singleton _ _, λ y hy z hz => by rw [List.mem_singleton.1 hz]; have := b4 y hy; omega⟩, λ y hy => ?_⟩, ⟨by show 0 <= b.t + HR b.s 1 70; omega, ?_⟩, ?_, (VO b8 (by omega) 1 70).mono ?_⟩, by show b.k - 1 < b.k; omega⟩
   ·show 1 <= y /\ y <= b.t + HR b.s 1 70
    rcases List.mem_append.1 hy with hy | hy
    ·have := b4 y hy; omega
    ·rw [List.mem_singleton.1 hy]; omega
   ·show b.t + HR b.s 1 70 <= 70 * (((b.q ++ [b.t + HR b.s 1 70]).length : Nat) : Int)
    rw [List.length_append, List.length_singleton]; omega
   ·show (b.q ++ [b.t + HR b.s 1 70]).length + (b.k - 1) <= _
    rw [List.length_append, List.length_singleton]; omega
   ·show _ <= 1001 + 100 * (b.n : Int) + (((b.q ++ [b.t + HR b.s 1 70]).length : Nat) : Int)
    rw [List.length_append, List.length_singleton]; omega
  ·exact ⟨⟨b.n, b.s, b.q, 0, 0⟩, ⟨rfl, rfl, Nat.le_refl _, λ _ _ => rfl, rfl, λ _ _ => rfl, rfl, rfl⟩, ⟨b1, b2⟩, b3, λ y hy => by have := b4 y hy; omega, by show b.q.length <= _; omega, b8.mono (by show _ <= 1030 + 100 * (b.n : Int); omega)⟩
  ·have v4 := NF b6 (by omega) 4
   have v4' := v4.2 (by omega)
   have hk4 : ((AV b.s 4).toNat : Int) = AV b.s 4 := Int.toNat_of_nonneg v4.1
   refine ⟨⟨by omega, by omega⟩, BRQ ⟨(AVG W hc b3 b4 (by omega)).1, λ _ => Nat.zero_le _⟩, λ _ => ⟨⟨⟨rfl, b6.used.1⟩, ⟨⟨b.n, BG b.s 4, [], (AV b.s 4).toNat⟩, ⟨rfl, hk4, rfl, λ _ _ => rfl, rfl, rfl⟩, ⟨b1, b2⟩, by show (AV b.s 4).toNat <= 3; omega, (b6.next (by omega) 4).mono (by show _ <= 1040 + 100 * (b.n : Int) - 3 * (((AV b.s 4).toNat : Nat) : Int); omega)⟩, λ c ⟨⟨c1, c2⟩, c3, c4⟩ => ⟨λ hk => ?_, λ hk => ?_⟩, λ c ⟨⟨c1, c2⟩, c3, c4, c5⟩ => ⟨λ hk => ?_, λ hk => ?_⟩⟩, λ c ⟨⟨c1, c2⟩, c3, c4, c5⟩ => ?_⟩⟩
   ·have t1 := c4.next (by omega) (L.length : Int)
    have t2 := t1.next (by omega) (L.length : Int)
    have t3 := t2.next (by omega) (L.length : Int)
    have u1 := nV c4 (by omega)
    have u2 := nV t1 (by omega)
    have u3 := nV t2 (by omega)
    refine ⟨⟨⟨c4.used.1, t1.used.1, t2.used.1⟩, ⟨u1, u2, λ _ => u2, λ _ => u3, λ _ => u1, λ _ => u3⟩, λ h => ⟨⟨by omega, by omega, by omega, by omega, by omega⟩, ⟨c.n, BG (BG (BG c.s (L.length : Int)) (L.length : Int)) (L.length : Int), [[AV c.s (L.length : Int), AV (BG c.s (L.length : Int)) (L.length : Int), AV (BG (BG c.s (L.length : Int)) (L.length : Int)) (L.length : Int)]], c.k - 1⟩, ⟨rfl, rfl, ?_, rfl, λ _ _ => rfl, rfl, rfl, rfl, λ i hi => ?_⟩, ?_, ⟨c1, c2⟩, ?_, ?_, t3.mono ?_⟩, λ h => ⟨⟨c.n, BG (BG (BG c.s (L.length : Int)) (L.length : Int)) (L.length : Int), [], c.k - 1⟩, ⟨rfl, ?_, rfl, λ _ _ => rfl, rfl, rfl⟩, ?_, ⟨c1, c2⟩, ?_, t3.mono ?_⟩⟩, λ d ⟨d0, ⟨d1, d2⟩, d3, d4⟩ => ⟨⟨d.n, d.s, [], d.k⟩, ⟨rfl, ?_, rfl, λ _ _ => rfl, rfl, rfl⟩, ⟨⟨d1, d2⟩, by show d.k <= 3; omega, d4⟩, by show d.k < c.k; omega⟩, λ d ⟨d0, ⟨d1, d2⟩, d3, d4, d5⟩ => ⟨⟨d.n, d.s, d.q, d.k⟩, ⟨rfl, rfl, ?_, rfl, λ _ _ => rfl, rfl, rfl, rfl, r3⟩, ⟨⟨d1, d2⟩, d3, by show d.q.length + d.k <= 3; omega, d5⟩, by show d.k < c.k; omega⟩⟩
    ·show ((c.k - 1 + 1 : Nat) : Int) = c.k; omega
    ·have hi : i < 1 := hi
     rw [show i = 0 by omega]; exact ⟨rfl, all3 _ _ _⟩
    ·show c.k = c.k - 1 + 1; omega
    ·intro z hz
     rw [List.mem_singleton.1 hz]
     obtain ⟨q1, q2, q3⟩ := BJK h
     exact ⟨AND pk.1 u1 u2 u3 q1 q2 q3, rfl⟩
    ·show 1 + (c.k - 1) <= 3; omega
    ·show _ <= 1040 + 100 * (c.n : Int) - 3 * ((c.k - 1 : Nat) : Int); omega
    ·show ((c.k - 1 + 1 : Nat) : Int) = c.k; omega
    ·show c.k = c.k - 1 + 1; omega
    ·show c.k - 1 <= 2; omega
    ·show _ <= 1040 + 100 * (c.n : Int) - 3 * ((c.k - 1 : Nat) : Int); omega
    ·show (d.k : Int) = _; rw [LS (by omega) (by omega)]; omega
    ·show (d.k : Int) = _; rw [LS (by omega) (by omega)]; omega
   ·exact ⟨⟨c.n, c.s, [], 0⟩, ⟨rfl, rfl, rfl, rfl, λ _ _ => rfl, rfl, rfl⟩, ⟨c1, c2⟩, λ z hz => (by cases hz), Nat.zero_le _, c4.mono (by show _ <= 1040 + 100 * (c.n : Int); omega)⟩
   ·have t1 := c5.next (by omega) (L.length : Int)
    have t2 := t1.next (by omega) (L.length : Int)
    have t3 := t2.next (by omega) (L.length : Int)
    have u1 := nV c5 (by omega)
    have u2 := nV t1 (by omega)
    have u3 := nV t2 (by omega)
    refine ⟨⟨⟨c5.used.1, t1.used.1, t2.used.1⟩, ⟨u1, u2, λ _ => u2, λ _ => u3, λ _ => u1, λ _ => u3⟩, λ h => ⟨⟨by omega, λ h => (by cases h), by omega, by omega⟩, ⟨c.n, BG (BG (BG c.s (L.length : Int)) (L.length : Int)) (L.length : Int), c.q ++ [[AV c.s (L.length : Int), AV (BG c.s (L.length : Int)) (L.length : Int), AV (BG (BG c.s (L.length : Int)) (L.length : Int)) (L.length : Int)]], c.k - 1⟩, ⟨rfl, by simp, ?_, rfl, λ _ _ => rfl, rfl, rfl, by simp, λ i hi => ?_⟩, ?_, ⟨c1, c2⟩, ?_, ?_, t3.mono ?_⟩, λ h => ⟨⟨c.n, BG (BG (BG c.s (L.length : Int)) (L.length : Int)) (L.length : Int), c.q, c.k - 1⟩, ⟨rfl, rfl, ?_, rfl, λ _ _ => rfl, rfl, rfl, rfl, r3⟩, ?_, ⟨c1, c2⟩, c3, ?_, t3.mono ?_⟩⟩, λ d ⟨d0, ⟨d1, d2⟩, d3, d4, d5⟩ => ⟨⟨d.n, d.s, d.q, d.k⟩, ⟨rfl, rfl, ?_, rfl, λ _ _ => rfl, rfl, rfl, rfl, r3⟩, ⟨⟨d1, d2⟩, d3, by show d.q.length + d.k <= 3; omega, d5⟩, by show d.k < c.k; omega⟩⟩
    ·show ((c.k - 1 + 1 : Nat) : Int) = c.k; omega
    ·rw [bV _ _ (by simpa using hi)]
     cases decide (i < c.q.length)
     ·exact ⟨rfl, all3 _ _ _⟩
     ·exact ⟨rfl, λ _ _ => rfl⟩
    ·show c.k = c.k - 1 + 1; omega
    ·intro z hz
     rcases List.mem_append.1 hz with hz | hz
     ·exact c3 z hz
     ·rw [List.mem_singleton.1 hz]
      obtain ⟨q1, q2, q3⟩ := BJK h
      exact ⟨AND pk.1 u1 u2 u3 q1 q2 q3, rfl⟩
    ·show (c.q ++ [_]).length + (c.k - 1) <= 3
     rw [List.length_append, List.length_singleton]; omega
    ·show _ <= 1040 + 100 * (c.n : Int) - 3 * ((c.k - 1 : Nat) : Int); omega
    ·show ((c.k - 1 + 1 : Nat) : Int) = c.k; omega
    ·show c.k = c.k - 1 + 1; omega
    ·show c.q.length + (c.k - 1) <= 3; omega
    ·show _ <= 1040 + 100 * (c.n : Int) - 3 * ((c.k - 1 : Nat) : Int); omega
    ·show (d.k : Int) = _; rw [LS (by omega) (by omega)]; omega
   ·exact ⟨⟨c.n, c.s, c.q, 0⟩, ⟨rfl, rfl, Nat.le_refl _, r3, rfl, λ _ _ => rfl, rfl, rfl⟩, ⟨c1, c2⟩, c3, by show c.q.length <= 3; omega, c5.mono (by show _ <= 1040 + 100 * (c.n : Int); omega)⟩
   ·have D := W.prv_le hc (q := c.q) (by omega) (λ i hi => (c3 _ (DU hi)).1) (AV c.s 5) false
    rw [ll] at D
    have s5 := c5.next (by omega) 5
    refine ⟨⟨rfl, c5.used.1⟩, ⟨⟨by omega, by omega⟩, λ i hi => by have := (c3 _ (DU hi)).2; omega⟩, prv_le (by rw [ll]; exact D), λ _ => ⟨⟨c.n + 1, BG c.s 5⟩, ⟨(EQ (by omega)).symm, rfl, λ _ _ => rfl, rfl, rfl⟩, ⟨by show c.n + 1 <= 5; omega, s5.mono (by show _ <= 1000 + 100 * ((c.n + 1 : Nat) : Int); omega)⟩, by show 5 - (c.n + 1) < _; omega⟩⟩
 ·refine ⟨⟨pk, z0⟩, ?_⟩
  rw [fE.1, fE.2, ll, hb0]; rfl
theorem BTI : AL Try.prog AWR (C_cpX.spec dCI) := okT C_cpX (λ (a : CI) h => by
 obtain ⟨l, e⟩ := a
 cases e with
 | true => exact Lg (A := ann 7 []) (xs := [.d (DC nilI)]) (L := []) (keep := []) (ren := []) (fz := []) AZD (by kernel_rfl) AF (by
   show CAQ default; rw [CEX]<;> delta KY Dc PN AT CG CM DB EF AE AJ AP Bu BO AC LW MY IE IK NY HC Gr UY ZT SE Eh Gi Dn; simp only [CC, eq_self, implies_true, forall_const]
   refine ⟨?_, ?_, ?_, ?_⟩ <;> simp)
 | false =>
  obtain ⟨h1, h2⟩ : 0 < l.length /\ l.length < 1073741824 := h
  exact Lg (A := CBJ) (xs := [.d (DC l)]) (L := []) (keep := C_cpI.keep l) (ren := [(0, 3032)]) (fz := []) AZD (by kernel_rfl) AF (by
   show BZU l; rw [CCD]<;> delta KY PN AO AT CX AG CG CM EM DB FM EF KT Ej AE AJ AP BO JQ jM CZ FT GI AC BB CF IE IK NY HC Gr UX ZT SE Gf Eh Gi Xf Ub SJ YV Dn Vr; simp only [CC, eq_self, implies_true, forall_const]
   exact ⟨⟨by omega, h1, by omega, by omega⟩, λ _ _ => rfl⟩)) _
theorem BOF : AL Try.prog APX (C_RateN.spec Ch) := okT C_RateN (λ (g : List Gau) h => by
 obtain ⟨h1, h2⟩ : g.length < 20 /\ (EK g).r.b = [] := h
 have e : C_RateN.val g = C_Rate.val g := by
  show AVal.tup [.d (.agg [DC nilI, wY (EK g).r.l]), .int (EK g).e] = .tup [.d (.agg [DC (EK g).r.b, wY (EK g).r.l]), .int (EK g).e]
  rw [h2]; rfl
 rw [e]
 exact Lg (A := ann 15 [(XN, C_few.spec Ch)]) (L := []) (keep := []) (ren := []) (fz := []) BIE (by kernel_rfl) (AB AVR AF) (by
  show BDM g; rw [BJA]<;> delta GH HK FK KZ KR LU MC AO AT CX AG CG CM EM DM GP EF GE MO Wb AE AJ AP AU AX AH BH CY BN CL CZ FT GI BB HI CQ DF FC NT DG EN AW AY DE DN EO DY EU FE DV HP FG CE CO MN FB BE An BW QY UF TW SI RU SF SK BR YB Dr Md Be IZ Bi UB Dj Ku YN; simp only [CC, eq_self, implies_true, forall_const]; exact h1)) _
theorem CFL (x : FwI) (hb : okBy x.bs) (hc : okBy x.cs) : FnT Try.prog ATL (xFw x) (AD []) (.bool true) [] := by
 have K := CFQ hb hc
 by_cases hk : (EK (Fi x)).k = []
 ·exact fntS (A := A_Fw x true) (S := S_Fw) (ren := []) (fz := []) AMZ (by kernel_rfl) (AB BPD (AB AYX (AB AKY (AB AEL (AB BOF (AB BLO (AB ATZ (AB BTI (AB AMA (AB AVY (AB BBL AF))))))))))) (λ k hk' => by
   have : k = 9 := Nat.eq_of_beq_eq_true hk'
   subst this; exact CGS x K hk) (BZZ ⟨x, true⟩ hb hc)
 ·exact fntS (A := A_Fw x false) (S := S_Fw) (ren := []) (fz := []) AMZ (by kernel_rfl) (AB BPD (AB AYX (AB AKY (AB AEL (AB BKC (AB BLI (AB ATZ (AB BTI (AB AMA (AB AVY (AB BBL AF))))))))))) (λ k hk' => by
   have : k = 9 := Nat.eq_of_beq_eq_true hk'
   subst this; exact CGE x K hk) (BZZ ⟨x, false⟩ hb hc)
end Go.Bal
