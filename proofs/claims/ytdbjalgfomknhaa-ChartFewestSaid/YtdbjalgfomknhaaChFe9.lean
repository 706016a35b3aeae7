/- Law ChartFewest: its walk goes through, if there are pairs; the whole. -/
import Derived.Test.YtdbjalgfomknhaaChFe8
import Derived.Test.YtdbjalgfomknhaaChWT1
set_option linter.unusedVariables false
set_option linter.unusedSimpArgs false
namespace Go.Bal
open Go Go.Sym Go.Proofs
theorem CIF {C : Cht} (h : ChOk C) {Q L : List Int} (hQ : okZ ⟨C, Q⟩ = true) {k : Nat} (hk : k < Q.length) (hl : L.length + 1 = Q.length) (hL : ∀ i, i < L.length -> gD L i = bif decide (i < k) then gD Q i else gD Q (i + 1)) : okZ ⟨C, L⟩ = true := by
 obtain ⟨q1, q2⟩ := (AOS (a := ⟨C, Q⟩) h.m).1 hQ
 have up : ∀ i j, i < j -> j < Q.length -> gD Q i < gD Q j := λ i j hij hj => by
  have := List.pairwise_iff_getElem.1 q2 i j (by show i < Q.length; omega) hj hij
  simpa [gD, List.getD_eq_getElem?_getD, hj, show i < Q.length by omega] using this
 refine (AOS (a := ⟨C, L⟩) h.m).2 ⟨λ g hg => ?_, ?_⟩
 ·obtain ⟨i, hi, rfl⟩ := XR hg
  have hi : i < L.length := hi
  show 0 <= gD L i /\ gD L i + 1 < (C.ms.length : Int)
  rw [hL i hi]
  cases decide (i < k)
  ·exact q1 _ (HP (show i + 1 < Q.length by omega))
  ·exact q1 _ (HP (show i < Q.length by omega))
 ·refine List.pairwise_iff_getElem.2 λ i j hi hj hij => ?_
  have hi : i < L.length := hi
  have hj : j < L.length := hj
  have e : gD L i < gD L j := by
   rw [hL i hi, hL j hj]
   by_cases a : i < k
   ·by_cases b : j < k
    ·rw [decide_eq_true a, decide_eq_true b]; exact up _ _ hij (by omega)
    ·rw [decide_eq_true a, decide_eq_false b]; exact up _ _ (by omega) (by omega)
   ·rw [decide_eq_false a, decide_eq_false (show ¬j < k by omega)]; exact up _ _ (by omega) (by omega)
  show L[i] < L[j]
  simpa [gD, List.getD_eq_getElem?_getD, hi, hj] using e
theorem BXS {C : Cht} (h : ChOk C) (hs : ZC C = true) {Q L : List Int} (hq : Q = (PS C).q) {k : Nat} (hk : k < Q.length) (hl : L.length + 1 = Q.length) (hL : ∀ i, i < L.length -> gD L i = bif decide (i < k) then gD Q i else gD Q (i + 1)) : (bif (mK (EE (CZ.mk C L))).2 != 0 then true else (mK (EE (CZ.mk C L))).1) = true -> true = false := by
 subst hq
 have ok := CIF h (BFS h) hk hl hL
 have A := ANC h hs ok
 rw [A.1]
 cases e : (mK (EE (CZ.mk C L))).1 with
 | false => intro h; cases h
 | true => have := BDL h hs ok e; omega
theorem BZK {C : Cht} (h : ChOk C) {R : List Pr} (hR : R = (PS C).r) {k : Nat} (hk : k < R.length) : (bif (latV (CP.mk C (gD R k))).2 != 0 then true else !(latV (CP.mk C (gD R k))).1) = true -> true = false := by
 subst hR
 have P := (tB h 0 (List.Perm.refl (PS C).r)).1 _ (HP hk)
 rw [CDV h P.1 P.2]
 intro h; cases h
def swP (q : List Pr) : List Pr := (q.set 0 (gD q (q.length - 1))).set (q.length - 1) (gD q 0)
theorem AXU (q : List Pr) : (swP q).length = q.length := by simp [swP]
theorem BXR {q : List Pr} (h : 1 < q.length) (i : Nat) : gD (swP q) i = if i = q.length - 1 then gD q 0 else if i = 0 then gD q (q.length - 1) else gD q i := by
 unfold swP
 rw [BUL (by rw [List.length_set]; omega), BUL (by omega)]
theorem BZP {q : List Pr} (h : 1 < q.length) : (swP q).Perm q := by
 obtain ⟨a, r, rfl⟩ : ∃ a r, q = a :: r := by
  cases q with
  | nil => simp at h
  | cons a r => exact ⟨a, r, rfl⟩
 have hr : r ≠ [] := λ e => by subst e; simp at h
 have er := List.dropLast_concat_getLast hr
 have e1 : swP (a :: r) = r.getLast hr :: (r.dropLast ++ [a]) := by
  apply BUQ
  ·rw [AXU]; simp; have : 0 < r.length := List.length_pos_iff.2 hr; omega
  ·intro i hi
   rw [AXU] at hi
   rw [BXR h]
   have hl : (a :: r).length - 1 = r.length := by simp
   have hp : 0 < r.length := List.length_pos_iff.2 hr
   rw [hl]
   have last : gD (a :: r) r.length = r.getLast hr := by
    rw [List.getLast_eq_getElem]
    obtain ⟨n, hn⟩ : ∃ n, r.length = n + 1 := ⟨r.length - 1, by omega⟩
    have : n < r.length := by omega
    simp [gD, List.getD_eq_getElem?_getD, hn, this]
   cases i with
   | zero => rw [if_neg (by omega), if_pos rfl, last]; rfl
   | succ i =>
    rw [if_neg (show ¬i + 1 = 0 by omega)]
    show _ = gD (r.dropLast ++ [a]) i
    rw [AEU, List.length_dropLast]
    by_cases hi2 : i + 1 = r.length
    ·rw [if_pos hi2, if_neg (by omega), show i - (r.length - 1) = 0 by omega]; rfl
    ·rw [if_neg hi2, if_pos (by simp at hi; omega)]
     have : i < r.length - 1 := by simp at hi; omega
     simp [gD, List.getD_eq_getElem?_getD, this]
     rw [List.getElem?_eq_getElem (by omega)]; rfl
 rw [e1]
 have p1 : (r.getLast hr :: (r.dropLast ++ [a])).Perm (a :: (r.dropLast ++ [r.getLast hr])) := by
  have q1 : (r.dropLast ++ [a]).Perm (a :: r.dropLast) := List.perm_append_singleton _ _
  have q2 : (r.dropLast ++ [r.getLast hr]).Perm (r.getLast hr :: r.dropLast) := List.perm_append_singleton _ _
  exact ((q1.cons _).trans (List.Perm.swap _ _ _)).trans (q2.symm.cons _)
 rw [er] at p1; exact p1
theorem BYF {q : List Pr} (h : 1 < q.length) {n : Nat} (hn : n = q.length - 1) (f : Pr -> Int) (i : Nat) : f (gD (swP q) i) = bif decide (i = n) then f (gD q 0) else bif decide (i = 0) then f (gD q n) else f (gD q i) := by
 subst hn
 rw [BXR h]
 by_cases a : i = q.length - 1
 ·rw [if_pos a, decide_eq_true a]; rfl
 ·rw [if_neg a, decide_eq_false a]
  by_cases b : i = 0
  ·rw [if_pos b, decide_eq_true b]; rfl
  ·rw [if_neg b, decide_eq_false b]; rfl
theorem CMM (x : FeI) : feQ x = (PS (OV x)).q /\ feR x = (PS (OV x)).r := by simp only [feQ, feR, and_self]
set_option maxHeartbeats 4000000 in
theorem CMS (x : FeI) (K : FeOk x) (hr : 0 < (PS (OV x)).r.length) (ht : (HG (fwW (OV x))).2 = true) : CFQ x := by
 rw [CID]<;> delta MF Sw BU CO FM TP WF Ua FQ FP CL AK CA DD AU BW Aj GM FX WN KZ KB XF NR IV HC HA HZ ID IA JD GN FW FY FO Ye PB Sb Ea JW ZA WW BI MG YE DX DE Vy NJ uU WZ Mz Ze Ft iM aW Qi LH Fm AHC Sh Ir Fo Xr Ln Wg Mn Wk AWC Bi QD BEJ Bc yT GH JF Wb PV SO Ik FC Jk Vx AWB wH XB IX QZ AWA TR Cd BQA BIR AI BG DV EN GF AN BO XE BK CG BJ BB BY AO AM HS Fp FZ BL BV ED AWQ mR Wi Z7 Cr dN AGT BKL AWU UZ CS GS CD Io IW CJ CX DM Bl AZ IY CY HT DP MP EU Ad CV DH zI BA AW HD GJ GG OP EA LU EI DG BD FS AGW EJ KR GU BE AHD EH ER OZ AJ EY FR XX BH gQ EM DI Sr BZ IE mJ HM GC HI KP EF VJ DU GI DS KY BAZ SV Dg nK FH LB HQ GR JG B8 Bj Mt GX WY Bk KU PP PZ FI LC XY Ab FD FT JU My Mx cD LD BDK QC FB KM YT TT ZD AAU LG GD JH IU uY BQ OT BT NG dJ WV Wl VD LV SJ FA DK DO TU Bg uW XI HB AYZ DC Mq JZ uV PL XH QX CH FL fZ ME iH YX Ke NM YV RB CM SG Fu OF APM KD SZ BGT BM CE Xx ASD WT ON MV CW Uo ARD KQ Av CU Ge S7 kM pI PN LJ TO jV bT TK JO EW Pf GW uI Hu TE EX HF DY AUG XG GP II Zt LY AUA Gu qA JJ YR U6 GA ARI Ou Ob GB OJ AKH CF Uc APT OW EG pW ACF qX tC sY SX HJ qJ TG vM ABO Kr BHV DJ AZK LM Pi PM BBM AUU ACS PK MW Gm QF ASZ pT ALR Yg YN QP TY vT Zv Oj TV MT Cp ATS YI RF yE AJT lD Hd Kd Hc Hv bA Ej yQ UE Fk Pj UC Br YB YM rE AHV Tx NT WE QH QW QN Bt QV Q9 TX Pu JL UD oH qU Oi Ao tD Tm To Vs Uk XT XL UF QS Cg YQ YJ MC Aw Ks Ur Ta XU QL At Ho Lb Ag VU TB qL pJ Jr ZV Eo tX Ig Gb Lm Al Ai ZQ bP X5 YG Et Jx UO Ew RH Ty ALB Fc TI Ar Kw Lj Jz Lk Lq Kn Kk Kb Lw Lu ARO Oo Ak ZR Aq Lo Md Jv Lc Fd UV Bz Am Vh Kp Ld YO Bn kR UQ YH lJ Sz Cb Tg Uu Vp Ut Te Vq Ys bS Vi Vv Vn Ti jL Zd Lg aN Vu Ul Lv Th Sx Ub Tz Vm Uy Vg Fe Ey kI Um Yj Uh Tu Tl Nl Tk Xq kL jQ Ux Fj jW yA xY kT kB jI Tb lC Q7 jS Vb lF kN Ek Om; simp only [CC, eq_self, implies_true, forall_const, ANZ, EB]
 have hok := K.ok
 have hsg := K.sg
 have hm := K.m
 have hn := K.n
 have hst := K.st
 obtain ⟨qe, re⟩ := CMM x
 clear K
 generalize feQ x = Q at *
 generalize feR x = R at *
 generalize (feY x).s = S at *
 generalize OV x = C at *
 have hF := AKQ hok hsg
 obtain ⟨hq, he, t, htt⟩ : (RT C).q = (PS C).q /\ (RT C).e = 0 /\ ∃ t, TrC C (WL ⟨C, (PS C).q⟩).sp t := by
  rcases hF with ⟨_, e, h⟩ | ⟨e, h⟩
  ·rw [e]; exact ⟨rfl, rfl, h⟩
  ·have := ((AAF (w := fwW C) hok).1 ht).2
   obtain ⟨t, h2⟩ := this
   exact absurd h2 (h _ t)
 clear hF
 have hl : (PS C).r.length = (PS C).q.length := (kQ C C.ns.length).2
 have hql : (PS C).q.length <= C.ns.length := (kQ C C.ns.length).1
 have ck : BF C = 0 := Zh.2 hok
 have all := BVM hok hsg htt (n := (PS C).q.length) (r := (PS C).r.length) rfl rfl (by omega) rfl rfl
 rw [<- qe, <- re] at hl
 rw [<- qe] at hql
 rw [<- re] at hr
 refine ⟨⟨⟨⟨by omega, by omega⟩, λ _ => hn⟩, hq, he⟩, ⟨⟨by omega, by omega⟩, ck, hn, by rw [<- re]; exact hr, ht⟩, ⟨by omega, by omega, by rw [<- qe]; omega⟩, ⟨by omega, by omega, by rw [<- re]; omega⟩, ⟨by omega, by omega, by rw [<- re]; omega⟩, all, λ _ => ⟨⟨⟨default, by rw [qe], λ i hi => by rw [qe], by rw [re], by rw [re], λ i hi => by rw [re]; exact ⟨rfl, rfl⟩⟩, λ a ha => ⟨λ hk => ?_, λ _ => ⟨default, trivial⟩⟩, λ h0 => ?_, λ _ => ⟨default, trivial⟩⟩, ⟨⟨0, S⟩, ⟨rfl, rfl, λ _ _ => rfl, rfl, rfl⟩, by show 0 <= 6; omega, hst.mono (by show (36 : Int) <= 100 + 100 * ((0 : Nat) : Int); omega)⟩, λ a ⟨a1, a2⟩ => ⟨λ hlt => ?_, λ hge => ?_⟩⟩⟩
 ·have hk : a.j + 1 < Q.length := by omega
  rw [HH (by omega)]
  simp only [Int.toNat_natCast, Int.toNat_zero, Nat.sub_zero, Nat.zero_add]
  have lL : (HX (a.j + 1 + (Q.length - (a.j + 1 + 1))) λ i => bif decide (i < a.j + 1) then gD (HX (a.j + 1) λ i => gD Q i) i else gD Q (a.j + 1 + 1 + (i - (a.j + 1)))).length + 1 = Q.length := by rw [rng_length]; omega
  have gL : ∀ i, i < (HX (a.j + 1 + (Q.length - (a.j + 1 + 1))) λ i => bif decide (i < a.j + 1) then gD (HX (a.j + 1) λ i => gD Q i) i else gD Q (a.j + 1 + 1 + (i - (a.j + 1)))).length -> gD (HX (a.j + 1 + (Q.length - (a.j + 1 + 1))) λ i => bif decide (i < a.j + 1) then gD (HX (a.j + 1) λ i => gD Q i) i else gD Q (a.j + 1 + 1 + (i - (a.j + 1)))) i = bif decide (i < a.j + 1) then gD Q i else gD Q (i + 1) := λ i hi => by
   rw [rng_length] at hi
   rw [EK _ _ _ hi]
   by_cases q : i < a.j + 1
   ·rw [decide_eq_true q]; exact EK _ _ _ q
   ·rw [decide_eq_false q]; show gD Q (a.j + 1 + 1 + (i - (a.j + 1))) = gD Q (i + 1); congr 1; omega
  refine ⟨⟨⟨by omega, by omega, by omega⟩, λ i hi => EK _ _ _ hi, ⟨by omega, by omega⟩, ⟨by omega, by omega, by omega⟩, λ h => (by cases h), by omega, by omega⟩, ⟨λ i hi => EK _ _ _ hi, by omega, by omega, by omega⟩, BXS hok hsg qe hk lL gL, λ _ => ⟨⟨⟨by omega, by omega⟩, by omega, by omega, by omega⟩, BZK hok re (by omega), λ _ => ⟨⟨a.j + 1, HX (a.j + 1 + (Q.length - (a.j + 1 + 1))) λ i => bif decide (i < a.j + 1) then gD (HX (a.j + 1) λ i => gD Q i) i else gD Q (a.j + 1 + 1 + (i - (a.j + 1)))⟩, ⟨rfl, rng_length _ _, λ i hi => ?_⟩, hk, by show Q.length - (a.j + 1 + 1) < _; omega⟩⟩⟩
  exact EK _ _ _ (by rw [<- rng_length (a.j + 1 + (Q.length - (a.j + 1 + 1)))]; exact hi)
 ·have hk : 0 < Q.length := by omega
  have w1 : IntKind.i64.wrap (0 + 1) = ((1 : Nat) : Int) := PE (by omega) (by omega)
  rw [w1]
  simp only [Int.toNat_natCast, Int.toNat_zero, Nat.sub_zero, Nat.zero_add]
  have lL : (HX (Q.length - 1) λ i => gD Q (1 + i)).length + 1 = Q.length := by rw [rng_length]; omega
  have gL : ∀ i, i < (HX (Q.length - 1) λ i => gD Q (1 + i)).length -> gD (HX (Q.length - 1) λ i => gD Q (1 + i)) i = bif decide (i < 0) then gD Q i else gD Q (i + 1) := λ i hi => by
   rw [rng_length] at hi
   rw [EK _ _ _ hi, Nat.add_comm]; rfl
  refine ⟨⟨⟨by omega, by omega, by omega⟩, λ i hi => absurd hi (Nat.not_lt_zero _), ⟨by omega, by omega, by omega⟩, λ h => by omega, λ h => (by cases h), by omega, by omega⟩, ⟨λ i hi => EK _ _ _ hi, by omega, by omega, by omega⟩, BXS hok hsg qe hk lL gL, λ _ => ⟨⟨⟨by omega, by omega⟩, by omega, by omega, by omega⟩, BZK hok re (by omega), λ _ => ⟨⟨0, HX (Q.length - 1) λ i => gD Q (1 + i)⟩, ⟨rfl, rng_length _ _, λ i hi => ?_⟩, hk, by show Q.length - (0 + 1) < _; omega⟩⟩⟩
  exact EK _ _ _ (by rw [<- rng_length (Q.length - 1)]; exact hi)
 ·have hlt : a.n < 6 := by omega
  refine ⟨⟨⟨⟨a.n, a.s, [], 0⟩, ⟨rfl, rfl, rfl, λ _ _ => rfl, rfl, rfl⟩, ⟨rfl, hlt⟩, hm.1, a2.mono (by show (100 : Int) + 100 * (a.n : Int) <= 100 + 100 * (a.n : Int) + ((0 : Nat) : Int); omega)⟩, λ b ⟨b0, b1, b2⟩ => ⟨λ hk => ?_, λ hk => ?_⟩, λ b ⟨b0, bg, b1, b2⟩ => ⟨λ hk => ?_, λ hk => ?_⟩⟩, λ b ⟨b0, bg, b2⟩ => ?_⟩
  ·rw [HH (by omega)] at hk
   have hk : b.k + 1 < C.ms.length := by omega
   have s1 := b2.next (by omega) 3
   refine ⟨⟨⟨rfl, b2.used.1⟩, λ hz => ⟨sz1, ⟨b.n, AS b.s 3, [(b.k : Int)], b.k⟩, ⟨rfl, rfl, rfl, rfl, λ _ _ => rfl, rfl, rfl, rfl, λ i hi => BYB hi⟩, ⟨rfl, hk⟩, b0, BYO, s1.mono (by show _ <= 101 + 100 * (b.n : Int) + (b.k : Int); omega)⟩, λ hz => ⟨⟨b.n, AS b.s 3, [], b.k⟩, ⟨rfl, rfl, rfl, λ _ _ => rfl, rfl, rfl⟩, ⟨rfl, hk⟩, b0, s1.mono (by show _ <= 101 + 100 * (b.n : Int) + (b.k : Int); omega)⟩⟩, λ c ⟨⟨c1, c2⟩, c3, c4⟩ => ⟨⟨c.n, c.s, [], c.k + 1⟩, ⟨rfl, (HH (by omega)).symm, rfl, λ _ _ => rfl, rfl, rfl⟩, ⟨c3, c2, c4.mono (by show _ <= 100 + 100 * (c.n : Int) + ((c.k + 1 : Nat) : Int); omega)⟩, by show C.ms.length - (c.k + 1) < _; omega⟩, λ c ⟨⟨c1, c2⟩, c3, cg, c4⟩ => ⟨⟨c.n, c.s, c.q, c.k + 1⟩, ⟨rfl, rfl, (HH (by omega)).symm, rfl, λ _ _ => rfl, rfl, rfl, rfl, λ _ _ => rfl⟩, ⟨c3, cg, c2, c4.mono (by show _ <= 100 + 100 * (c.n : Int) + ((c.k + 1 : Nat) : Int); omega)⟩, by show C.ms.length - (c.k + 1) < _; omega⟩⟩
  ·exact ⟨⟨b.n, b.s, [], 0⟩, ⟨rfl, rfl, rfl, rfl, λ _ _ => rfl, rfl, rfl⟩, b0, BYX, b2.mono (by show _ <= 120 + 100 * (b.n : Int); omega)⟩
  ·rw [HH (by omega)] at hk
   have hk : b.k + 1 < C.ms.length := by omega
   have s1 := b2.next (by omega) 3
   have ql := BHH bg
   refine ⟨⟨⟨rfl, b2.used.1⟩, λ hz => ⟨⟨by omega, λ h => (by cases h), by omega, by omega⟩, ⟨b.n, AS b.s 3, b.q ++ [(b.k : Int)], b.k⟩, ⟨rfl, by simp, rfl, rfl, λ _ _ => rfl, rfl, rfl, by simp, λ i hi => APO _ _ (by simpa using hi)⟩, ⟨rfl, hk⟩, b0, BOM bg, s1.mono (by show _ <= 101 + 100 * (b.n : Int) + (b.k : Int); omega)⟩, λ hz => ⟨⟨b.n, AS b.s 3, b.q, b.k⟩, ⟨rfl, rfl, rfl, rfl, λ _ _ => rfl, rfl, rfl, rfl, λ _ _ => rfl⟩, ⟨rfl, hk⟩, b0, BQK bg (Nat.le_succ _), s1.mono (by show _ <= 101 + 100 * (b.n : Int) + (b.k : Int); omega)⟩⟩, λ c ⟨⟨c1, c2⟩, c3, cg, c4⟩ => ⟨⟨c.n, c.s, c.q, c.k + 1⟩, ⟨rfl, rfl, (HH (by omega)).symm, rfl, λ _ _ => rfl, rfl, rfl, rfl, λ _ _ => rfl⟩, ⟨c3, cg, c2, c4.mono (by show _ <= 100 + 100 * (c.n : Int) + ((c.k + 1 : Nat) : Int); omega)⟩, by show C.ms.length - (c.k + 1) < _; omega⟩⟩
  ·exact ⟨⟨b.n, b.s, b.q, 0⟩, ⟨rfl, rfl, Nat.le_refl _, λ _ _ => rfl, rfl, λ _ _ => rfl, rfl, rfl⟩, b0, BQK bg (by omega), b2.mono (by show _ <= 120 + 100 * (b.n : Int); omega)⟩
  ·have ql := BHH bg
   refine ⟨⟨by omega, by omega, by omega⟩, BTW hok hsg (BMH hok bg) (by rw [qe]; exact Nat.le_refl _), λ _ => ⟨⟨⟨⟨b.n, b.s, [], 0⟩, ⟨rfl, rfl, rfl, λ _ _ => rfl, rfl, rfl⟩, b0, Nat.zero_le _, b2.mono (by show _ <= 120 + 100 * (b.n : Int) + 2 * ((0 : Nat) : Int); omega)⟩, λ c ⟨c0, c1, c2⟩ => ⟨λ hk => ?_, λ hk => ?_⟩, λ c ⟨c0, ⟨cz, cl⟩, c1, c2⟩ => ⟨λ hk => ?_, λ hk => ?_⟩⟩, λ c ⟨c0, ⟨cz, cl⟩, c2⟩ => ?_⟩⟩
   ·have hk : c.k < C.ns.length := by omega
    have s1 := c2.next (by omega) (C.ns.length : Int)
    have v1 := LS c2 (by omega) (C.ns.length : Int)
    have v1b := v1.2 (by omega)
    refine ⟨⟨⟨c2.used.1, ⟨c.n, AS c.s (C.ns.length : Int), [], c.k, AV c.s (C.ns.length : Int)⟩, ⟨rfl, rfl, rfl, λ _ _ => rfl, rfl, rfl, rfl, rfl⟩, ⟨rfl, hk⟩, ⟨v1.1, v1b⟩, c0, s1.mono (by show _ <= 121 + 100 * (c.n : Int) + 2 * (c.k : Int); omega)⟩, λ d ⟨⟨d1, d2⟩, d3, d4, d5⟩ => ⟨λ hl => ⟨⟨d3, ⟨by omega, by omega⟩, rfl, d5.used.1⟩, λ hb => ⟨sz2, ⟨d.n, AS d.s 2, [⟨d.y, d.k⟩], d.k⟩, ⟨rfl, rfl, rfl, rfl, λ _ _ => rfl, rfl, rfl, rfl, λ i hi => BQI hi⟩, ⟨d1, d2⟩, d4, ⟨BQL (AXP (by omega) d3 d2 hb), by show 1 <= d.k + 1; omega⟩, (d5.next (by omega) 2).mono (by show _ <= 122 + 100 * (d.n : Int) + 2 * (d.k : Int); omega)⟩, λ hb => ⟨⟨d.n, AS d.s 2, [], d.k⟩, ⟨rfl, rfl, rfl, λ _ _ => rfl, rfl, rfl⟩, ⟨d1, d2⟩, d4, (d5.next (by omega) 2).mono (by show _ <= 122 + 100 * (d.n : Int) + 2 * (d.k : Int); omega)⟩⟩, λ hl => ⟨⟨d3, by omega, by omega⟩, λ hb => AXF hl hb, λ hb => ⟨⟨d.n, d.s, [], d.k⟩, ⟨rfl, rfl, rfl, λ _ _ => rfl, rfl, rfl⟩, ⟨d1, d2⟩, d4, d5.mono (by show _ <= 122 + 100 * (d.n : Int) + 2 * (d.k : Int); omega)⟩⟩⟩⟩, λ d ⟨⟨d1, d2⟩, d3, d4⟩ => ⟨⟨d.n, d.s, [], d.k + 1⟩, ⟨rfl, (HH (by omega)).symm, rfl, λ _ _ => rfl, rfl, rfl⟩, ⟨d3, d2, d4.mono (by show _ <= 120 + 100 * (d.n : Int) + 2 * ((d.k + 1 : Nat) : Int); omega)⟩, by show C.ns.length - (d.k + 1) < _; omega⟩, λ d ⟨⟨d1, d2⟩, d3, ⟨dz, dl⟩, d4⟩ => ⟨⟨d.n, d.s, d.q, d.k + 1⟩, ⟨rfl, rfl, (HH (by omega)).symm, rfl, λ _ _ => rfl, rfl, rfl, rfl, λ _ _ => ⟨rfl, rfl⟩⟩, ⟨d3, ⟨dz, dl⟩, d2, d4.mono (by show _ <= 120 + 100 * (d.n : Int) + 2 * ((d.k + 1 : Nat) : Int); omega)⟩, by show C.ns.length - (d.k + 1) < _; omega⟩⟩
   ·exact ⟨⟨c.n, c.s, [], 0⟩, ⟨rfl, rfl, rfl, rfl, λ _ _ => rfl, rfl, rfl⟩, c0, ⟨λ z hz => by (cases hz), Nat.zero_le _⟩, c2.mono (by show _ <= 160 + 100 * (c.n : Int); omega)⟩
   ·have hk : c.k < C.ns.length := by omega
    have s1 := c2.next (by omega) (C.ns.length : Int)
    have v1 := LS c2 (by omega) (C.ns.length : Int)
    have v1b := v1.2 (by omega)
    refine ⟨⟨⟨c2.used.1, ⟨c.n, AS c.s (C.ns.length : Int), c.q, c.k, AV c.s (C.ns.length : Int)⟩, ⟨rfl, rfl, rfl, rfl, λ _ _ => rfl, rfl, rfl, rfl, λ _ _ => ⟨rfl, rfl⟩, rfl, rfl⟩, ⟨rfl, hk⟩, ⟨v1.1, v1b⟩, c0, ⟨cz, cl⟩, s1.mono (by show _ <= 121 + 100 * (c.n : Int) + 2 * (c.k : Int); omega)⟩, λ d ⟨⟨d1, d2⟩, d3, d4, ⟨dz, dl⟩, d5⟩ => ⟨λ hl => ⟨⟨d3, ⟨by omega, by omega⟩, rfl, d5.used.1⟩, λ hb => ⟨⟨by omega, λ h => (by cases h), by omega, by omega⟩, ⟨d.n, AS d.s 2, d.q ++ [⟨d.y, d.k⟩], d.k⟩, ⟨rfl, by simp, rfl, rfl, λ _ _ => rfl, rfl, rfl, by simp, λ i hi => BLD _ _ hi⟩, ⟨d1, d2⟩, d4, ⟨BKZ dz (AXP (by omega) d3 d2 hb), by show (d.q ++ [_]).length <= d.k + 1; rw [List.length_append, List.length_singleton]; omega⟩, (d5.next (by omega) 2).mono (by show _ <= 122 + 100 * (d.n : Int) + 2 * (d.k : Int); omega)⟩, λ hb => ⟨⟨d.n, AS d.s 2, d.q, d.k⟩, ⟨rfl, rfl, rfl, rfl, λ _ _ => rfl, rfl, rfl, rfl, λ _ _ => ⟨rfl, rfl⟩⟩, ⟨d1, d2⟩, d4, ⟨dz, by show d.q.length <= d.k + 1; omega⟩, (d5.next (by omega) 2).mono (by show _ <= 122 + 100 * (d.n : Int) + 2 * (d.k : Int); omega)⟩⟩, λ hl => ⟨⟨d3, by omega, by omega⟩, λ hb => AXF hl hb, λ hb => ⟨⟨d.n, d.s, d.q, d.k⟩, ⟨rfl, rfl, rfl, rfl, λ _ _ => rfl, rfl, rfl, rfl, λ _ _ => ⟨rfl, rfl⟩⟩, ⟨d1, d2⟩, d4, ⟨dz, by show d.q.length <= d.k + 1; omega⟩, d5.mono (by show _ <= 122 + 100 * (d.n : Int) + 2 * (d.k : Int); omega)⟩⟩⟩⟩, λ d ⟨⟨d1, d2⟩, d3, ⟨dz, dl⟩, d4⟩ => ⟨⟨d.n, d.s, d.q, d.k + 1⟩, ⟨rfl, rfl, (HH (by omega)).symm, rfl, λ _ _ => rfl, rfl, rfl, rfl, λ _ _ => ⟨rfl, rfl⟩⟩, ⟨d3, ⟨dz, dl⟩, d2, d4.mono (by show _ <= 120 + 100 * (d.n : Int) + 2 * ((d.k + 1 : Nat) : Int); omega)⟩, by show C.ns.length - (d.k + 1) < _; omega⟩⟩
   ·exact ⟨⟨c.n, c.s, c.q, 0⟩, ⟨rfl, rfl, Nat.le_refl _, λ _ _ => ⟨rfl, rfl⟩, rfl, λ _ _ => rfl, rfl, rfl⟩, c0, ⟨cz, by show c.q.length <= 20; omega⟩, c2.mono (by show _ <= 160 + 100 * (c.n : Int); omega)⟩
   ·have s1 := c2.next (by omega) 5
    exact ⟨⟨rfl, c2.used.1⟩, ⟨by omega, by omega, by omega⟩, BQP hok htt cl cz (by rw [qe]), λ _ => ⟨⟨c.n + 1, AS c.s 5⟩, ⟨(HH (by omega)).symm, rfl, λ _ _ => rfl, rfl, rfl⟩, ⟨by show c.n + 1 <= 6; omega, s1.mono (by show _ <= 100 + 100 * ((c.n + 1 : Nat) : Int); omega)⟩, by show 6 - (c.n + 1) < _; omega⟩⟩
 ·refine ⟨⟨λ h1 => ?_, λ _ => ⟨R, ⟨rfl, rfl, λ _ _ => ⟨rfl, rfl⟩⟩, List.Perm.refl _⟩⟩, λ q hq => ⟨⟨by omega, by omega, by rw [hq.length_eq]; omega⟩, ?_⟩⟩
  ·have h1 : 1 < R.length := by omega
   have w1 : IntKind.i64.wrap ((R.length : Int) - 1) = ((R.length - 1 : Nat) : Int) := (PE (by omega) (by omega)).trans (by omega)
   rw [w1]
   simp only [Int.toNat_natCast, Int.toNat_zero]
   refine ⟨⟨⟨by omega, by omega⟩, by omega, ⟨by omega, by omega⟩, by omega, ⟨by omega, by omega⟩, by omega, ⟨by omega, by omega⟩, by omega⟩, swP R, ⟨AXU _, AXU _, λ i hi => ⟨BYF h1 rfl Pr.a i, BYF h1 rfl Pr.b i⟩⟩, BZP h1⟩
  ·have hq2 : q.Perm (PS C).r := by rw [<- re]; exact hq
   have A := tB hok (Q.length : Int) hq2
   have V := O5 (x := ⟨C, Q.length, q⟩) hok (by show q.length <= 40; rw [hq.length_eq]; omega) λ p hp => (A.1 p hp).1
   have V : QY (Prv.mk C (Q.length : Int) q) = (true, 0) := by
    rw [V, A.2, show decide (((Prv.mk C (Q.length : Int) q).l.length : Int) >= (Prv.mk C (Q.length : Int) q).m) = true from decide_eq_true (by show (q.length : Int) >= Q.length; rw [hq.length_eq]; omega)]; rfl
   rw [V]; rfl
def CJZ (x : FeI) : Prop := BEH Try.prog (A_Fe x true true) S_Fe YS (AP YS) (xFe x) (AH []) (.bool true) [] [] []
theorem CDO (x : FeI) : CJZ x = BLZ x := by rw [BRQ]<;> delta MF BU CO FM TP WF Ua FQ FP CL AK CA DD AU BW Aj GM FX WN KZ KB XF NR IV HC HA HZ ID IA JD GN FW FY GY FO Ye PB ZA MG YE DX DE Vy NJ WZ Fo Xr Ln Wg Mn ANT ANR CN AI BG DV AN BO XE BK CG BJ BB BY AO AM BL BV ED AOW AWG cS Bh UZ CS CD VB Io CJ CX DM AZ IY CR HT DP EU Ad DH zI BA AW DQ GG OP EA LU EI HY DG BD AGW FU KR GU BE AHD EH ER AJ EY FR BH gQ EM DI BZ IE HM KP EF DU EO nK FH LB HR B8 Bk KU PP GO FI LC TL JX QC IR NL BQ OT BT NG VD LV DK TU LR XI HB DC uV PL XH QX EL fZ Yy OC iH YX YV CM OF KD Ox WT CU MU SY LJ JO EW GV tW GP Gu Ah GB CF EG oR SX TG LM ALV YN TY LN TV MT Fb IH UU Da NT TX XT PJ Hg Ks WM Gg PC PH SU TN Hn PO OX PR RP RR Ai YG UN XQ Vf Fd Oe Gv jD Uq Nf ZT RO; kernel_rfl
def CJB (x : FeI) : Prop := Eb Try.prog (A_Fe x true false) S_Fe 9 (stdF Try.prog (A_Fe x true false) S_Fe) (AP YS) [] (E_Fe x true false)
theorem CDI (x : FeI) : CJB x = BWF x := by rw [BVL]<;> delta MF Sw BU CO FM TP WF Ua FQ FP CL AK CA DD AU BW Aj GM FX WN KZ KB XF NR IV HC HA HZ ID IA JD GN FW FY GY FO Ye PB Sb Ea JW ZA WW BI YE DX DE NJ uU WZ Mz Ze Ft iM aW Qi LH Fm AHC Sh gV Ir Fo Xr Ln Wg Mn Wk Jc AWC Bi QD BEJ Bc yT GH JF Wb PV SO Ik FC Jk Vx AWB wH XB IX QZ AWA TR Cd AI BG DV EN GF AN BO XE BK CG BJ BB BY AO AM HS Fp FZ BL BV ED mR Wi Cr dN Bh UZ CS GS CD Io IW CJ CX DM AZ IY CY HT DP MP EU Ad CV DH zI BA AW HD GJ GG OP EA LU EI DG BD FS AGW EJ KR GU BE AHD EH ER OZ AJ EY FR XX BH gQ EM DI BZ IE mJ HM GC HI KP EF VJ DU GI DS BAZ SV nK FH LB HQ GR JG B8 GX WY Bk KU PP PZ FI LC XY Ab FD FT JU cD LD BDK QC FB KM YT ZD AAU LG GD JH IU uY BQ OT BT NG WV LV SJ FA DK DO TU uW XI HB AYZ DC Mq JZ uV PL XH QX CH FL fZ ME iH YX Ke NM YV RB CM SG OF KD SZ BM CE Xx ASD WT ON MV CW Fa ARD KQ Av CU Ge kM PN LJ jV bT TK JO EW Pf GW uI Hu EX HF DY AUG XG GP II Zt LY AUA Gu qA JJ YR U6 GA ARI Tn Ou GB OJ AKM CF Uc APT aD OW EG pW ACF qX tC sY SX HJ qJ TG vM ABO Kr DJ LM Pi PM AUU ACS PK MW Gm QF lO oQ pT ALR Yg YN QP TY vT Zv TJ TV MT Cp ATS YI RF yE AJT lD Hd Kd Hc Hv bA yQ UE Fk Pj Br YB YM rE AHV Tx WE QH QW QN Bt QV Q9 TX Pu JL UD oH qU Oi ZF Ao tD Tm To Vs Uk XT TW UF QS YQ YJ MC Aw Ks VT Ur Ta XU QL At Ho Lb TB qL pJ Eo tX Ig Gb He Al ATN ZQ bP X5 Et Jx Oq UO Ew Ty ALB Fc TI Ar Kw Lj Jz Lk Lq Kn Gz Kk Bq Kb Lw Lu kS Oo Va Ak ZR Lo Md Jv aU Lc UV Bz Am Kp Ld YO Bn kR UQ YH ZU Cb Tg Uu Ut Te Vq Ys bS Vi Vv Vn Ti Zd aN Vu Ul Ax Lv Th Sx Ub Tz Vm Uy Vg Fe Ey Um Uh Tu Tl Nl Tk Xq kL jQ Ux jW kT kB jI Tb lC Mb Vb lF kN Om Vr; kernel_rfl
theorem CEF {C : Cht} (hok : ChOk C) (hsg : ZC C = true) (h : (RT C).r ≠ []) : 0 < (PS C).r.length /\ (HG (fwW C)).2 = true /\ 0 < C.ns.length := by
 rcases AKQ hok hsg with ⟨h1, e, _⟩ | ⟨e, _⟩
 ·rw [e] at h
  have h : (PS C).r ≠ [] := h
  have h2 := List.length_pos_iff.2 h
  have h3 : (PS C).r.length = (PS C).q.length := (kQ C C.ns.length).2
  have h4 : (PS C).q.length <= C.ns.length := (kQ C C.ns.length).1
  exact ⟨h2, h1, by omega⟩
 ·rw [e] at h; exact absurd rfl h
theorem CEL {x : FeI} (hb : okB x.bs) (hc : okB x.cs) : (OV x).ns.length = (RD x).ns.length := by
 have hE : FeF (RD x).ns (RD x).ns.length (feY x) := fe_5 hb hc _ (Nat.le_refl _)
 rw [BZQ, hE.len]
theorem S9 {k : Nat} (h : S_Fe k = true) : k = 9 := Nat.eq_of_beq_eq_true h
theorem COE (x : FeI) (hb : okB x.bs) (hc : okB x.cs) : FnT Try.prog BDM (xFe x) (AH []) (.bool true) [] := by
 have K := CMF hb hc
 have hn := CEL hb hc
 by_cases hr : (RT (OV x)).r = []
 ·by_cases h0 : (RD x).ns.length = 0
  ·exact fntS (A := A_Fe x false false) (S := S_Fe) (ren := []) (fz := []) AHM (by kernel_rfl) (AC BNB (AC BXL (AC AFF (AC BDY (AC BES (AC BBH (AC BNJ (AC BMW (AC BFI (AC AYK AL)))))))))) (λ k hk => by
    rw [S9 hk]; exact CEZ x K hr) (CKN x K h0)
  ·exact fntS (A := A_Fe x true false) (S := S_Fe) (ren := []) (fz := []) AHM (by kernel_rfl) (AC BNB (AC BKX (AC AFF (AC BDY (AC BES (AC BBH (AC BNJ (AC BMW (AC BFI (AC AYK AL)))))))))) (λ k hk => by
    rw [S9 hk]; exact (CDI x).mpr (CEZ x K hr)) (BWC x K (Nat.pos_of_ne_zero h0))
 ·obtain ⟨h1, h2, h3⟩ := CEF K.ok K.sg hr
  rw [hn] at h3
  exact fntS (A := A_Fe x true true) (S := S_Fe) (ren := []) (fz := []) AHM (by kernel_rfl) (AC BNB (AC BKX (AC AFF (AC BRZ (AC BSZ (AC BBH (AC BNJ (AC BMW (AC BFI (AC AYK AL)))))))))) (λ k hk => by
    rw [S9 hk]; exact CMS x K h1 h2) ((CDO x).mpr (BWC x K h3))
end Go.Bal
