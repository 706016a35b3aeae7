/- Law RatingFewest: its walk goes through, if there is a break. -/
import Derived.Test.YtoihhodbkimedaaRFe1
set_option linter.unusedVariables false
set_option linter.unusedSimpArgs false
namespace Go.Bal
open Go Go.Sym Go.Proofs
theorem BKG {g : List Gau} {c : List Int} (D : DQ ⟨g, c⟩ = 0 /\ wS ⟨g, c⟩ = false) : (bif DQ (GB.mk g c) != 0 then true else wS (GB.mk g c)) = true -> true = false := by
 rw [D.1, D.2]; intro h; cases h
theorem BSZ {g : List Gau} {c : List Int} (D : Lq ⟨g, c⟩ = 0 /\ Us ⟨g, c⟩ = true) : (bif Lq (GK.mk g c) != 0 then true else !Us (GK.mk g c)) = true -> true = false := by
 rw [D.1, D.2]; intro h; cases h
theorem BRQ {g : List Gau} {c : List Int} {n : Nat} (D : DQ ⟨g, c⟩ = 0 /\ (wS ⟨g, c⟩ = true -> n <= c.length)) : (bif DQ (GB.mk g c) != 0 then true else bif wS (GB.mk g c) then decide ((c.length : Int) < n) else false) = true -> true = false := by
 rw [D.1]
 cases h : wS ⟨g, c⟩ with
 | false => intro h; cases h
 | true =>
  have := D.2 h
  rw [decide_eq_false (by omega)]; intro h; cases h
theorem prv_le {g : List Gau} {q : List (List Int)} {o : Bool} {m n : Int} (D : bI ⟨g, m, q, o⟩ = 0 /\ (lT ⟨g, m, q, o⟩ = true -> m <= n)) : (bif bI (PV.mk g m q o) != 0 then true else bif lT (PV.mk g m q o) then decide (m > n) else false) = true -> true = false := by
 rw [D.1]
 cases h : lT ⟨g, m, q, o⟩ with
 | false => intro h; cases h
 | true =>
  have := D.2 h
  rw [decide_eq_false (by omega)]; intro h; cases h
theorem BJK {p q r : Int} (h : (bif bif decide (p <= q) then decide (q <= r) else false then decide (p < r) else false) = true) : p <= q /\ q <= r /\ p < r := by
 by_cases h1 : p <= q
 ·rw [decide_eq_true h1] at h
  by_cases h2 : q <= r
  ·rw [decide_eq_true h2] at h
   exact ⟨h1, h2, of_decide_eq_true h⟩
  ·rw [decide_eq_false h2] at h; cases h
 ·rw [decide_eq_false h1] at h; cases h
theorem r3 {q : List (List Int)} : ∀ i, i < q.length -> (gD q i).length = (gD q i).length /\ ∀ j, j < (gD q i).length -> gD (gD q i) j = gD (gD q i) j := λ _ _ => ⟨rfl, λ _ _ => rfl⟩
def swQ (q : List (List Int)) : List (List Int) := (q.set 0 (gD q (q.length - 1))).set (q.length - 1) (gD q 0)
theorem BSU {q : List (List Int)} (h : 1 < q.length) (i : Nat) : gD (swQ q) i = if i = q.length - 1 then gD q 0 else if i = 0 then gD q (q.length - 1) else gD q i := by
 unfold swQ
 rw [BFF (by rw [List.length_set]; omega), BFF (by omega)]
theorem AKR (q : List (List Int)) : (swQ q).length = q.length := by simp [swQ]
theorem BMQ {q : List (List Int)} (h : 1 < q.length) : (swQ q).Perm q := by
 obtain ⟨a, r, rfl⟩ : ∃ a r, q = a :: r := by
  cases q with
  | nil => simp at h
  | cons a r => exact ⟨a, r, rfl⟩
 have hr : r ≠ [] := λ e => by subst e; simp at h
 have er := List.dropLast_concat_getLast hr
 have e1 : swQ (a :: r) = r.getLast hr :: (r.dropLast ++ [a]) := by
  apply BEX
  ·rw [AKR]; simp; have : 0 < r.length := List.length_pos_iff.2 hr; omega
  ·intro i hi
   rw [AKR] at hi
   rw [BSU h]
   have hl : (a :: r).length - 1 = r.length := by simp
   have hp : 0 < r.length := List.length_pos_iff.2 hr
   rw [hl]
   have last : gD (a :: r) r.length = r.getLast hr := by
    rw [List.getLast_eq_getElem]
    obtain ⟨n, hn⟩ : ∃ n, r.length = n + 1 := ⟨r.length - 1, by omega⟩
    have : n < r.length := by omega
    simp [gD, List.getD_eq_getElem?_getD, hn, this]
   cases i with
   | zero => rw [if_neg (by omega), if_pos rfl, last]; rfl
   | succ i =>
    rw [if_neg (show ¬i + 1 = 0 by omega)]
    show _ = gD (r.dropLast ++ [a]) i
    rw [jI, List.length_dropLast]
    by_cases hi2 : i + 1 = r.length
    ·rw [if_pos hi2, if_neg (by omega), show i - (r.length - 1) = 0 by omega]; rfl
    ·rw [if_neg hi2, if_pos (by simp at hi; omega)]
     have : i < r.length - 1 := by simp at hi; omega
     simp [gD, List.getD_eq_getElem?_getD, this]
     rw [List.getElem?_eq_getElem (by omega)]; rfl
 rw [e1]
 have p1 : (r.getLast hr :: (r.dropLast ++ [a])).Perm (a :: (r.dropLast ++ [r.getLast hr])) := by
  have q1 : (r.dropLast ++ [a]).Perm (a :: r.dropLast) := List.perm_append_singleton _ _
  have q2 : (r.dropLast ++ [r.getLast hr]).Perm (r.getLast hr :: r.dropLast) := List.perm_append_singleton _ _
  exact ((q1.cons _).trans (List.Perm.swap _ _ _)).trans (q2.symm.cons _)
 rw [er] at p1; exact p1
theorem BBI (x : FwI) : (EK (Fi x)).r = fxR x := by unfold fxR; rfl
theorem ATU (x : FwI) : (EK (Fi x)).k = fxQ x := by unfold fxQ; rfl
set_option maxHeartbeats 4000000 in
theorem CGE (x : FwI) (K : FxOk x) (hk : (EK (Fi x)).k ≠ []) : CBS x := by
 have he : (EK (Fi x)).e = 0 := by
  by_cases h : (EK (Fi x)).e = 0
  ·exact h
  ·exact absurd (BIN h).1 hk
 have hc := K.chk
 have W := BZL hc he
 rw [BBI, ATU] at W
 have hb := W.lt hc
 have lk := W.lenk
 have ll := W.lenl
 have hL := K.len
 have hs3 : ∀ i, i < (fxQ x).length -> (gD (fxQ x) i).length < 1073741824 := λ i hi => by have := W.short hc hi; omega
 have hst := K.st
 have hk2 := hk
 rw [ATU] at hk2
 rw [CCT]<;> delta KY hd5 hd7 Dc GH HK FK KZ KR LU MC KN Tu PN FA AO ZR AT CX AG CG CM EM BK DB DW DT QP PD RO FM PQ Ah YC WQ Tg TU DM GP EF GF Cr Il KT WH NR Ie Is Ej Ll AR GE MO Cs Lz Lm xW Iq Wb NC xM KX Um bO bX Xk gV pN Wo Eu Ev BAF Iu ANM ZL QE AZB iX Zl NH FL ABF EE Br Bt Wu LX KV Yn BHI BCD KK AE VZ KC yB FQ AJ Ut AP DR AU AK Bu BO JQ Ia bR Z4 tF ABL jM Sr Ka QS AJV Rw DK AX AQ AH AIS BH TA CY BN CL CZ CA KF DP FT GI AC BB ED QH IG WA Y3 QK BBE HI cG CQ EP DF FP MX WE TG CF ARD FC NT Lk DG EN AW Cu AY ZJ BAV Ma LW QI tZ ATS CJ pT DE DN AS EO EA HF ZI DS GN Ew MY ASU XL QJ VA OL LJ sW Lt Kc ASM JM EU VX AAW DV HP Ir BM FG CE MK CO KJ JN UQ BAJ QF pL pQ AJT JG ASL JE AAI HG tE IF Vs IE pI MN VL MZ cH AIU LQ AZY RS Ix LL Ur Mb FH Zw NA An IK XF BA Px BC JT BI AFB APP oA Fv QY DD UF ADE JC EZ NY RT Yd Df RW Dg TW ER SI RU SF BJ ET SK FZ GZ ALU ANN qU Ld IM Dx Sx fH ME HJ Bv FD Af DH HC Gr Tr TN Cz FI EL FX Tn zD AMJ SG LD GJ Db kZ MR CN KO qT dX GA dF RC UX UY ZT PO SE fQ bC tS qV eS MT RD FW Gf SM YU Dl HX HM JU VE AEB FU Yu zQ Dk I0 AEC VM Md Eh RI NU LG RK MF RZ Jt cO UJ On UC Ra YP IR R8 TO Ti C4 Ug Ee aQ Lc Ov AGV WU PC LP rA ACN mK Bn fW TY Bo qC MJ YY RH kR TL PF Gi As fG Bg YO WY RX IZ Zh Gz dO Dz Jm TI Xf APB Cw Js Fu Fz Gp Kf Kv YW Kr Oi dS Hc Eb Ae UB Ub SJ Yl UV WW Fl Pf Ol Nx Nf AFR AET Tk Pk Qx K2 Tc Ap Ak VB Qw Nu AMD L1 Xd Gm Zb VC Oo Pj Vw nW Rg Oh Dn Xa Ue bF Zj Yp Pw Yw dQ cV Xp eK Np Kq Vt Dj aN Dp Gd Ob YR fN Vq uC Ky Qo Gv kO Vv aF eI mJ oW kN rT Ts nD Zf lE rL Zs Yx Ye Wx kC Hs; simp only [CC, eq_self, implies_true, forall_const, AOG, BSW, Int.toNat_zero, Nat.sub_zero, BBI, ATU, he]
 clear hk K he
 generalize fxQ x = Q at *
 generalize fxR x = R at *
 generalize fxS x = s0 at *
 generalize Fi x = L at *
 have pk : L.length < 1073741824 /\ Q.length < 20 := ⟨by omega, by omega⟩
 have w1 : IntKind.i64.wrap ((R.l.length : Int) + 1) = (R.l.length : Int) + 1 := LS (by omega) (by omega)
 have w2 : IntKind.i64.wrap ((R.b.length : Int) + 1) = (R.b.length : Int) + 1 := LS (by omega) (by omega)
 have w3 : IntKind.i64.wrap ((R.b.length : Int) + 2) = (R.b.length : Int) + 2 := LS (by omega) (by omega)
 have fE : ∀ {m : Int} {k : List (List Int)} {o : Bool}, m = R.l.length -> k.Perm Q -> bI ⟨L, m, k, o⟩ = 0 /\ lT ⟨L, m, k, o⟩ = true := λ {m k o} hm hp => by
  obtain ⟨h1, h2⟩ := W.prv hc hp m o
  exact ⟨h1, by rw [h2]; exact decide_eq_true (by omega)⟩
 have Q1 : bI ⟨L, (R.l.length : Int), Q, true⟩ = 0 /\ lT ⟨L, (R.l.length : Int), Q, true⟩ = true := fE rfl (List.Perm.refl _)
 have Q2 : bI ⟨L, IntKind.i64.wrap ((R.l.length : Int) + 1), Q, true⟩ = 0 /\ lT ⟨L, IntKind.i64.wrap ((R.l.length : Int) + 1), Q, true⟩ = false := by
  obtain ⟨h1, h2⟩ := W.prv hc (List.Perm.refl _) (IntKind.i64.wrap ((R.l.length : Int) + 1)) true
  exact ⟨h1, h2.trans (decide_eq_false (by rw [w1]; omega))⟩
 have nV : ∀ {K : Int} {s : Stm}, StmB K s -> K <= 100000 -> 0 <= AV s (L.length : Int) /\ AV s (L.length : Int) < L.length := λ {K s} h hK => by
  have := NF h (by omega) (L.length : Int)
  exact ⟨this.1, this.2 (by omega)⟩
 have wv : ∀ {K : Int} {s : Stm}, StmB K s -> K <= 100000 -> 1 <= HR s 1 70 /\ HR s 1 70 <= 70 := λ {K s} h hK => bT h (by omega) (lo := 1) (hi := 70) (by omega) (by omega) (by omega)
 refine ⟨by omega, ⟨by omega, hk2⟩, λ h => ?_, λ _ => ⟨λ h => ?_, λ _ => ⟨⟨pk, hs3⟩, ⟨pk, hs3⟩, λ h => ?_, λ _ => ⟨⟨⟨default, trivial⟩, λ a ha => ⟨λ hlt => ?_, λ _ => ⟨default, trivial⟩⟩, λ h0 => ?_, λ _ => ⟨default, trivial⟩⟩, ⟨⟨0, s0⟩, ⟨rfl, rfl, λ _ _ => rfl, rfl, rfl⟩, by show 0 <= 5; omega, hst.mono (by show (30 : Int) <= 1000 + 100 * ((0 : Nat) : Int); omega)⟩, λ a ⟨a1, a2⟩ => ⟨λ hlt => ?_, λ hge => ?_⟩⟩⟩⟩⟩
 ·cases h
 ·cases h
 ·rw [Q1.1, Q1.2, Q2.1, Q2.2] at h
  have e1 : ((R.l.length : Int) != IntKind.i64.wrap ((R.b.length : Int) + 1)) = false := by
   rw [w2, ll]; simp
  have e2 : ((Q.length : Int) != (R.b.length : Int)) = false := by
   rw [lk]; simp
  rw [e1, e2] at h; cases h
 ·have e : IntKind.i64.wrap (((a.j + 1 : Nat) : Int) + 1) = ((a.j + 2 : Nat) : Int) := by rw [LS (by omega) (by omega)]; omega
  rw [e]; simp only [Int.toNat_natCast]
  have hlt : a.j + 1 < R.b.length := by omega
  have D := W.del hc (j := a.j + 1) (c := OC (a.j + 1 + (R.b.length - (a.j + 2))) λ i => bif decide (i < a.j + 1) then gD (OC (a.j + 1) λ i => gD R.b i) i else gD R.b (a.j + 2 + (i - (a.j + 1)))) (by rw [rng_length]; omega) (λ i hi => by
   rw [rng_length] at hi
   rw [Rp _ _ _ hi]
   by_cases h1 : i < a.j + 1
   ·rw [decide_eq_true h1, if_pos h1]; exact Rp _ _ _ h1
   ·rw [decide_eq_false h1, if_neg h1, show i + 1 = a.j + 2 + (i - (a.j + 1)) by omega]; rfl)
  exact ⟨⟨⟨by omega, by omega, by omega⟩, λ i hi => Rp _ _ _ hi, ⟨by omega, by omega⟩, ⟨by omega, by omega, by omega⟩, λ h => (by cases h), by omega, by omega⟩, ⟨λ i hi => Rp _ _ _ hi, by omega, by omega⟩, BKG D, λ _ => ⟨⟨⟨by omega, by omega⟩, by omega, by omega, hs3 _ (by omega)⟩, BSZ (W.kn hc (by omega)), λ _ => ⟨⟨a.j + 1, OC (a.j + 1 + (R.b.length - (a.j + 2))) λ i => bif decide (i < a.j + 1) then gD (OC (a.j + 1) λ i => gD R.b i) i else gD R.b (a.j + 2 + (i - (a.j + 1)))⟩, ⟨rfl, rng_length _ _, λ i hi => by rw [rng_length] at hi; exact Rp _ _ _ hi⟩, hlt, by show R.b.length - (a.j + 1 + 1) < _; omega⟩⟩⟩
 ·have e : IntKind.i64.wrap ((0 : Int) + 1) = 1 := LS (by omega) (by omega)
  rw [e]
  have h0 : 0 < R.b.length := by omega
  have D := W.del hc (j := 0) (c := OC (R.b.length - 1) λ i => gD R.b (1 + i)) (by rw [rng_length]; omega) (λ i hi => by
   rw [rng_length] at hi
   rw [Rp _ _ _ hi, if_neg (by omega), Nat.add_comm])
  exact ⟨⟨⟨by omega, by omega, by omega⟩, λ i hi => absurd hi (Nat.not_lt_zero _), ⟨by omega, by omega, by omega⟩, λ h => absurd h (Nat.lt_irrefl _), λ h => (by cases h), by omega, by omega⟩, ⟨λ i hi => Rp _ _ _ hi, by omega, by omega⟩, BKG D, λ _ => ⟨⟨⟨by omega, by omega⟩, by omega, by omega, hs3 _ (by omega)⟩, BSZ (W.kn hc (by omega)), λ _ => ⟨⟨0, OC (R.b.length - 1) λ i => gD R.b (1 + i)⟩, ⟨rfl, rng_length _ _, λ i hi => by rw [rng_length] at hi; exact Rp _ _ _ hi⟩, h0, by show R.b.length - (0 + 1) < _; omega⟩⟩⟩
 ·have hlt : a.n < 5 := by omega
  have v1 := NF a2 (by omega) (IntKind.i64.wrap ((R.b.length : Int) + 2))
  have v1' := v1.2 (by omega)
  have hk1 : ((AV a.s (IntKind.i64.wrap ((R.b.length : Int) + 2))).toNat : Int) = AV a.s (IntKind.i64.wrap ((R.b.length : Int) + 2)) := Int.toNat_of_nonneg v1.1
  have s1 := a2.next (by omega) (IntKind.i64.wrap ((R.b.length : Int) + 2))
  have wk : ∀ {k : Nat}, 0 < k -> k < 100 -> ((k - 1 : Nat) : Int) = IntKind.i64.wrap ((k : Int) - 1) := λ {k} h1 h2 => by rw [LS (by omega) (by omega)]; omega
  refine ⟨⟨a2.used.1, ⟨⟨a.n, BG a.s (IntKind.i64.wrap ((R.b.length : Int) + 2)), [], (AV a.s (IntKind.i64.wrap ((R.b.length : Int) + 2))).toNat, 0⟩, ⟨rfl, hk1, rfl, λ _ _ => rfl, rfl, rfl⟩, ⟨rfl, hlt⟩, by show (AV a.s (IntKind.i64.wrap ((R.b.length : Int) + 2))).toNat <= _; omega, s1.mono (by show _ <= 1001 + 100 * (a.n : Int); omega)⟩, λ b ⟨⟨b1, b2⟩, b3, b4⟩ => ⟨λ hk => ?_, λ hk => ?_⟩, λ b ⟨⟨b1, b2⟩, ⟨b3, b4⟩, ⟨b5, b6⟩, b7, b8⟩ => ⟨λ hk => ?_, λ hk => ?_⟩⟩, λ b ⟨⟨b1, b2⟩, b3, b4, b5, b6⟩ => ?_⟩
  ·have v := wv b4 (by omega)
   have e : IntKind.i64.wrap (0 + HR b.s 1 70) = HR b.s 1 70 := by rw [LS (by omega) (by omega)]; omega
   rw [e]
   refine ⟨⟨rfl, rfl, b4.used.1⟩, ⟨by omega, by omega, by omega, by omega, by omega⟩, ⟨b.n, bK b.s 1 70, [HR b.s 1 70], b.k - 1, HR b.s 1 70⟩, ⟨rfl, rfl, rfl, wk (by omega) (by omega), rfl, λ _ _ => rfl, rfl, rfl, rfl, λ i hi => by rw [show i = 0 by have h1 : i < 1 := hi; omega]; rfl⟩, ⟨⟨b1, b2⟩, ⟨List.pairwise_singleton _ _, λ y hy => by rw [List.mem_singleton.1 hy]; show 1 <= HR b.s 1 70 /\ HR b.s 1 70 <= HR b.s 1 70; omega⟩, ⟨by show 0 <= HR b.s 1 70; omega, by show HR b.s 1 70 <= 70 * ((1 : Nat) : Int); omega⟩, by show 1 + (b.k - 1) <= _; omega, (VO b4 (by omega) 1 70).mono (by show _ <= 1001 + 100 * (b.n : Int) + ((1 : Nat) : Int); omega)⟩, by show b.k - 1 < b.k + 1; omega⟩
  ·exact ⟨⟨b.n, b.s, [], 0, 0⟩, ⟨rfl, rfl, rfl, rfl, λ _ _ => rfl, rfl, rfl⟩, ⟨b1, b2⟩, List.Pairwise.nil, λ y hy => by (cases hy), Nat.zero_le _, b4.mono (by show _ <= 1030 + 100 * (b.n : Int); omega)⟩
  ·have v := wv b8 (by omega)
   have e : IntKind.i64.wrap (b.t + HR b.s 1 70) = b.t + HR b.s 1 70 := by rw [LS (by omega) (by omega)]
   rw [e]
   refine ⟨⟨rfl, rfl, b8.used.1⟩, ⟨by omega, λ h => (by cases h), by omega, by omega⟩, ⟨b.n, bK b.s 1 70, b.q ++ [b.t + HR b.s 1 70], b.k - 1, b.t + HR b.s 1 70⟩, ⟨rfl, by simp, rfl, wk (by omega) (by omega), rfl, λ _ _ => rfl, rfl, rfl, by simp, BBT _ _⟩, ⟨⟨b1, b2⟩, ⟨List.pairwise_append.2 ⟨b3, List.pairwise_singleton _ _, λ y hy z hz => by rw [List.mem_singleton.1 hz]; have := b4 y hy; omega⟩, λ y hy => ?_⟩, ⟨by show 0 <= b.t + HR b.s 1 70; omega, ?_⟩, ?_, (VO b8 (by omega) 1 70).mono ?_⟩, by show b.k - 1 < b.k; omega⟩
   ·show 1 <= y /\ y <= b.t + HR b.s 1 70
    rcases List.mem_append.1 hy with hy | hy
    ·have := b4 y hy; omega
    ·rw [List.mem_singleton.1 hy]; omega
   ·show b.t + HR b.s 1 70 <= 70 * (((b.q ++ [b.t + HR b.s 1 70]).length : Nat) : Int)
    rw [List.length_append, List.length_singleton]; omega
   ·show (b.q ++ [b.t + HR b.s 1 70]).length + (b.k - 1) <= _
    rw [List.length_append, List.length_singleton]; omega
   ·show _ <= 1001 + 100 * (b.n : Int) + (((b.q ++ [b.t + HR b.s 1 70]).length : Nat) : Int)
    rw [List.length_append, List.length_singleton]; omega
  ·exact ⟨⟨b.n, b.s, b.q, 0, 0⟩, ⟨rfl, rfl, Nat.le_refl _, λ _ _ => rfl, rfl, λ _ _ => rfl, rfl, rfl⟩, ⟨b1, b2⟩, b3, λ y hy => by have := b4 y hy; omega, by show b.q.length <= _; omega, b8.mono (by show _ <= 1030 + 100 * (b.n : Int); omega)⟩
  ·have v4 := NF b6 (by omega) 4
   have v4' := v4.2 (by omega)
   have hk4 : ((AV b.s 4).toNat : Int) = AV b.s 4 := Int.toNat_of_nonneg v4.1
   refine ⟨⟨by omega, by omega⟩, BRQ (AVG W hc b3 b4 (by omega)), λ _ => ⟨⟨⟨rfl, b6.used.1⟩, ⟨⟨b.n, BG b.s 4, [], (AV b.s 4).toNat⟩, ⟨rfl, hk4, rfl, λ _ _ => rfl, rfl, rfl⟩, ⟨b1, b2⟩, by show (AV b.s 4).toNat <= 3; omega, (b6.next (by omega) 4).mono (by show _ <= 1040 + 100 * (b.n : Int) - 3 * (((AV b.s 4).toNat : Nat) : Int); omega)⟩, λ c ⟨⟨c1, c2⟩, c3, c4⟩ => ⟨λ hk => ?_, λ hk => ?_⟩, λ c ⟨⟨c1, c2⟩, c3, c4, c5⟩ => ⟨λ hk => ?_, λ hk => ?_⟩⟩, λ c ⟨⟨c1, c2⟩, c3, c4, c5⟩ => ?_⟩⟩
   ·have t1 := c4.next (by omega) (L.length : Int)
    have t2 := t1.next (by omega) (L.length : Int)
    have t3 := t2.next (by omega) (L.length : Int)
    have u1 := nV c4 (by omega)
    have u2 := nV t1 (by omega)
    have u3 := nV t2 (by omega)
    refine ⟨⟨⟨c4.used.1, t1.used.1, t2.used.1⟩, ⟨u1, u2, λ _ => u2, λ _ => u3, λ _ => u1, λ _ => u3⟩, λ h => ⟨⟨by omega, by omega, by omega, by omega, by omega⟩, ⟨c.n, BG (BG (BG c.s (L.length : Int)) (L.length : Int)) (L.length : Int), [[AV c.s (L.length : Int), AV (BG c.s (L.length : Int)) (L.length : Int), AV (BG (BG c.s (L.length : Int)) (L.length : Int)) (L.length : Int)]], c.k - 1⟩, ⟨rfl, rfl, ?_, rfl, λ _ _ => rfl, rfl, rfl, rfl, λ i hi => ?_⟩, ?_, ⟨c1, c2⟩, ?_, ?_, t3.mono ?_⟩, λ h => ⟨⟨c.n, BG (BG (BG c.s (L.length : Int)) (L.length : Int)) (L.length : Int), [], c.k - 1⟩, ⟨rfl, ?_, rfl, λ _ _ => rfl, rfl, rfl⟩, ?_, ⟨c1, c2⟩, ?_, t3.mono ?_⟩⟩, λ d ⟨d0, ⟨d1, d2⟩, d3, d4⟩ => ⟨⟨d.n, d.s, [], d.k⟩, ⟨rfl, ?_, rfl, λ _ _ => rfl, rfl, rfl⟩, ⟨⟨d1, d2⟩, by show d.k <= 3; omega, d4⟩, by show d.k < c.k; omega⟩, λ d ⟨d0, ⟨d1, d2⟩, d3, d4, d5⟩ => ⟨⟨d.n, d.s, d.q, d.k⟩, ⟨rfl, rfl, ?_, rfl, λ _ _ => rfl, rfl, rfl, rfl, r3⟩, ⟨⟨d1, d2⟩, d3, by show d.q.length + d.k <= 3; omega, d5⟩, by show d.k < c.k; omega⟩⟩
    ·show ((c.k - 1 + 1 : Nat) : Int) = c.k; omega
    ·have hi : i < 1 := hi
     rw [show i = 0 by omega]; exact ⟨rfl, all3 _ _ _⟩
    ·show c.k = c.k - 1 + 1; omega
    ·intro z hz
     rw [List.mem_singleton.1 hz]
     obtain ⟨q1, q2, q3⟩ := BJK h
     exact ⟨AND pk.1 u1 u2 u3 q1 q2 q3, rfl⟩
    ·show 1 + (c.k - 1) <= 3; omega
    ·show _ <= 1040 + 100 * (c.n : Int) - 3 * ((c.k - 1 : Nat) : Int); omega
    ·show ((c.k - 1 + 1 : Nat) : Int) = c.k; omega
    ·show c.k = c.k - 1 + 1; omega
    ·show c.k - 1 <= 2; omega
    ·show _ <= 1040 + 100 * (c.n : Int) - 3 * ((c.k - 1 : Nat) : Int); omega
    ·show (d.k : Int) = _; rw [LS (by omega) (by omega)]; omega
    ·show (d.k : Int) = _; rw [LS (by omega) (by omega)]; omega
   ·exact ⟨⟨c.n, c.s, [], 0⟩, ⟨rfl, rfl, rfl, rfl, λ _ _ => rfl, rfl, rfl⟩, ⟨c1, c2⟩, λ z hz => (by cases hz), Nat.zero_le _, c4.mono (by show _ <= 1040 + 100 * (c.n : Int); omega)⟩
   ·have t1 := c5.next (by omega) (L.length : Int)
    have t2 := t1.next (by omega) (L.length : Int)
    have t3 := t2.next (by omega) (L.length : Int)
    have u1 := nV c5 (by omega)
    have u2 := nV t1 (by omega)
    have u3 := nV t2 (by omega)
    refine ⟨⟨⟨c5.used.1, t1.used.1, t2.used.1⟩, ⟨u1, u2, λ _ => u2, λ _ => u3, λ _ => u1, λ _ => u3⟩, λ h => ⟨⟨by omega, λ h => (by cases h), by omega, by omega⟩, ⟨c.n, BG (BG (BG c.s (L.length : Int)) (L.length : Int)) (L.length : Int), c.q ++ [[AV c.s (L.length : Int), AV (BG c.s (L.length : Int)) (L.length : Int), AV (BG (BG c.s (L.length : Int)) (L.length : Int)) (L.length : Int)]], c.k - 1⟩, ⟨rfl, by simp, ?_, rfl, λ _ _ => rfl, rfl, rfl, by simp, λ i hi => ?_⟩, ?_, ⟨c1, c2⟩, ?_, ?_, t3.mono ?_⟩, λ h => ⟨⟨c.n, BG (BG (BG c.s (L.length : Int)) (L.length : Int)) (L.length : Int), c.q, c.k - 1⟩, ⟨rfl, rfl, ?_, rfl, λ _ _ => rfl, rfl, rfl, rfl, r3⟩, ?_, ⟨c1, c2⟩, c3, ?_, t3.mono ?_⟩⟩, λ d ⟨d0, ⟨d1, d2⟩, d3, d4, d5⟩ => ⟨⟨d.n, d.s, d.q, d.k⟩, ⟨rfl, rfl, ?_, rfl, λ _ _ => rfl, rfl, rfl, rfl, r3⟩, ⟨⟨d1, d2⟩, d3, by show d.q.length + d.k <= 3; omega, d5⟩, by show d.k < c.k; omega⟩⟩
    ·show ((c.k - 1 + 1 : Nat) : Int) = c.k; omega
    ·rw [bV _ _ (by simpa using hi)]
     cases decide (i < c.q.length)
     ·exact ⟨rfl, all3 _ _ _⟩
     ·exact ⟨rfl, λ _ _ => rfl⟩
    ·show c.k = c.k - 1 + 1; omega
    ·intro z hz
     rcases List.mem_append.1 hz with hz | hz
     ·exact c3 z hz
     ·rw [List.mem_singleton.1 hz]
      obtain ⟨q1, q2, q3⟩ := BJK h
      exact ⟨AND pk.1 u1 u2 u3 q1 q2 q3, rfl⟩
    ·show (c.q ++ [_]).length + (c.k - 1) <= 3
     rw [List.length_append, List.length_singleton]; omega
    ·show _ <= 1040 + 100 * (c.n : Int) - 3 * ((c.k - 1 : Nat) : Int); omega
    ·show ((c.k - 1 + 1 : Nat) : Int) = c.k; omega
    ·show c.k = c.k - 1 + 1; omega
    ·show c.q.length + (c.k - 1) <= 3; omega
    ·show _ <= 1040 + 100 * (c.n : Int) - 3 * ((c.k - 1 : Nat) : Int); omega
    ·show (d.k : Int) = _; rw [LS (by omega) (by omega)]; omega
   ·exact ⟨⟨c.n, c.s, c.q, 0⟩, ⟨rfl, rfl, Nat.le_refl _, r3, rfl, λ _ _ => rfl, rfl, rfl⟩, ⟨c1, c2⟩, c3, by show c.q.length <= 3; omega, c5.mono (by show _ <= 1040 + 100 * (c.n : Int); omega)⟩
   ·have D := W.prv_le hc (q := c.q) (by omega) (λ i hi => (c3 _ (DU hi)).1) (AV c.s 5) false
    rw [ll] at D
    have s5 := c5.next (by omega) 5
    refine ⟨⟨rfl, c5.used.1⟩, ⟨⟨by omega, by omega⟩, λ i hi => by have := (c3 _ (DU hi)).2; omega⟩, prv_le (by rw [ll]; exact D), λ _ => ⟨⟨c.n + 1, BG c.s 5⟩, ⟨(EQ (by omega)).symm, rfl, λ _ _ => rfl, rfl, rfl⟩, ⟨by show c.n + 1 <= 5; omega, s5.mono (by show _ <= 1000 + 100 * ((c.n + 1 : Nat) : Int); omega)⟩, by show 5 - (c.n + 1) < _; omega⟩⟩
 ·have e3 : ∀ {q : List (List Int)}, q.Perm Q -> (L.length < 1073741824 /\ q.length < 20) /\ ∀ i, i < q.length -> (gD q i).length < 1073741824 := λ {q} h => by
   refine ⟨⟨by omega, by rw [h.length_eq]; omega⟩, λ i hi => ?_⟩
   obtain ⟨j, hj, e⟩ := YL (h.mem_iff.1 (DU hi))
   rw [<- e]; exact hs3 j hj
  refine ⟨⟨λ h1 => ?_, λ _ => ⟨Q, ⟨rfl, rfl, r3⟩, List.Perm.refl _⟩⟩, λ q hq => ⟨e3 hq, ?_⟩⟩
  ·have h1 : 1 < Q.length := by omega
   have e : IntKind.i64.wrap ((Q.length : Int) - 1) = ((Q.length - 1 : Nat) : Int) := by rw [LS (by omega) (by omega)]; omega
   rw [e]; simp only [Int.toNat_natCast]
   refine ⟨⟨⟨by omega, by omega⟩, by omega, ⟨by omega, by omega⟩, by omega, ⟨by omega, by omega⟩, by omega, ⟨by omega, by omega⟩, by omega⟩, swQ Q, ⟨AKR Q, AKR Q, λ i hi => ?_⟩, BMQ h1⟩
   rw [BSU h1]
   by_cases i1 : i = Q.length - 1
   ·rw [if_pos i1, decide_eq_true i1]; exact ⟨rfl, λ _ _ => rfl⟩
   ·rw [if_neg i1, decide_eq_false i1]
    by_cases i2 : i = 0
    ·rw [if_pos i2, decide_eq_true i2]; exact ⟨rfl, λ _ _ => rfl⟩
    ·rw [if_neg i2, decide_eq_false i2]; exact ⟨rfl, λ _ _ => rfl⟩
  ·obtain ⟨p1, p2⟩ := fE (o := true) rfl hq
   rw [p1, p2]; rfl
end Go.Bal
