/- Law ChartFewest: its walk goes through, if there is no pair. -/
import Derived.Test.YtdbjalgfomknhaaChFe5
set_option linter.unusedVariables false
set_option linter.unusedSimpArgs false
namespace Go.Bal
open Go Go.Sym Go.Proofs
theorem BYB {k i : Nat} (hi : i < [(k : Int)].length) : gD [(k : Int)] i = (k : Int) := by
 obtain rfl : i = 0 := by have hi : i < 1 := hi; omega
 rfl
theorem BQI {p : Pr} {i : Nat} (hi : i < [p].length) : (gD [p] i).a = p.a /\ (gD [p] i).b = p.b := by
 obtain rfl : i = 0 := by have hi : i < 1 := hi; omega
 exact ⟨rfl, rfl⟩
theorem sz1 : ((0 : Nat) < 0 -> (0 : Nat) = 1) /\ (0 : Nat) < 1 /\ (0 : Nat) < 1 /\ (0 : Nat) < 9223372036854775807 /\ (7 : Nat) < 140737488355328 := ⟨λ h => by omega, by omega, by omega, by omega, by omega⟩
theorem sz2 : ((0 : Nat) < 0 -> (0 : Nat) = 2) /\ (0 : Nat) < 1 /\ (0 : Nat) < 1 /\ (0 : Nat) < 9223372036854775807 /\ (15 : Nat) < 140737488355328 := ⟨λ h => by omega, by omega, by omega, by omega, by omega⟩
theorem CMD {e : Int} (h : e = 0 ∨ e = 6) : (bif e != e then true else bif e != 0 then e != 6 else false) = true -> true = false := by
 rcases h with rfl | rfl <;> intro h <;> cases h
theorem BVM {C : Cht} (h : ChOk C) (hs : ZC C = true) {t : Nat -> Int} (ht : TrC C (WL ⟨C, (PS C).q⟩).sp t) {n r : Nat} (hn : n = (PS C).q.length) (hr : r = (PS C).r.length) (h20 : (PS C).r.length <= 20) {q : List Int} {p : List Pr} (hq : q = (PS C).q) (hp : p = (PS C).r) : (bif bif bif bif bif bif (mK (EE (CZ.mk C q))).2 != 0 then true else (QY (Prv.mk C (n : Int) p)).2 != 0 then true else (QY (Prv.mk C (IntKind.i64.wrap ((n : Int) + 1)) p)).2 != 0 then true else !(mK (EE (CZ.mk C q))).1 then true else !(QY (Prv.mk C (n : Int) p)).1 then true else (QY (Prv.mk C (IntKind.i64.wrap ((n : Int) + 1)) p)).1 then true else (r : Int) != (n : Int)) = true -> true = false := by
 have eL : (PS C).r.length = (PS C).q.length := (kQ C C.ns.length).2
 subst hn; subst hr; subst hq; subst hp
 have hok : okZ ⟨C, (PS C).q⟩ = true := BFS h
 have A := ANC h hs hok
 have e1 : (mK (EE (CZ.mk C (PS C).q))).1 = true := A.2.2 ⟨t, ht⟩
 have P := λ m : Int => tB h m (List.Perm.refl (PS C).r)
 have V := λ m : Int => O5 (x := ⟨C, m, (PS C).r⟩) h (by show (PS C).r.length <= 40; omega) λ p hp => ((P m).1 p hp).1
 have V2 : ∀ m : Int, QY (Prv.mk C m (PS C).r) = (decide (((PS C).r.length : Int) >= m), 0) := λ m => by rw [V m, (P m).2]; rfl
 rw [A.1, e1, V2, V2, HH (by omega), decide_eq_true (show ((PS C).r.length : Int) >= ((PS C).q.length : Int) by omega), decide_eq_false (show ¬((PS C).r.length : Int) >= (((PS C).q.length + 1 : Nat) : Int) by omega), eL]
 intro hh
 simp at hh
set_option maxHeartbeats 4000000 in
theorem CEZ (x : FeI) (K : FeOk x) (hz : (RT (OV x)).r = []) : BWF x := by
 rw [BVL]<;> delta MF Sw BU CO FM TP WF Ua FQ FP CL AK CA DD AU BW Aj GM FX WN KZ KB XF NR IV HC HA HZ ID IA JD GN FW FY GY FO Ye PB Sb Ea JW ZA WW BI YE DX DE NJ uU WZ Mz Ze Ft iM aW Qi LH Fm AHC Sh gV Ir Fo Xr Ln Wg Mn Wk Jc AWC Bi QD BEJ Bc yT GH JF Wb PV SO Ik FC Jk Vx AWB wH XB IX QZ AWA TR Cd AI BG DV EN GF AN BO XE BK CG BJ BB BY AO AM HS Fp FZ BL BV ED mR Wi Cr dN Bh UZ CS GS CD Io IW CJ CX DM AZ IY CY HT DP MP EU Ad CV DH zI BA AW HD GJ GG OP EA LU EI DG BD FS AGW EJ KR GU BE AHD EH ER OZ AJ EY FR XX BH gQ EM DI BZ IE mJ HM GC HI KP EF VJ DU GI DS BAZ SV nK FH LB HQ GR JG B8 GX WY Bk KU PP PZ FI LC XY Ab FD FT JU cD LD BDK QC FB KM YT ZD AAU LG GD JH IU uY BQ OT BT NG WV LV SJ FA DK DO TU uW XI HB AYZ DC Mq JZ uV PL XH QX CH FL fZ ME iH YX Ke NM YV RB CM SG OF KD SZ BM CE Xx ASD WT ON MV CW Fa ARD KQ Av CU Ge kM PN LJ jV bT TK JO EW Pf GW uI Hu EX HF DY AUG XG GP II Zt LY AUA Gu qA JJ YR U6 GA ARI Tn Ou GB OJ AKM CF Uc APT aD OW EG pW ACF qX tC sY SX HJ qJ TG vM ABO Kr DJ LM Pi PM AUU ACS PK MW Gm QF lO oQ pT ALR Yg YN QP TY vT Zv TJ TV MT Cp ATS YI RF yE AJT lD Hd Kd Hc Hv bA yQ UE Fk Pj Br YB YM rE AHV Tx WE QH QW QN Bt QV Q9 TX Pu JL UD oH qU Oi ZF Ao tD Tm To Vs Uk XT TW UF QS YQ YJ MC Aw Ks VT Ur Ta XU QL At Ho Lb TB qL pJ Eo tX Ig Gb He Al ATN ZQ bP X5 Et Jx Oq UO Ew Ty ALB Fc TI Ar Kw Lj Jz Lk Lq Kn Gz Kk Bq Kb Lw Lu kS Oo Va Ak ZR Lo Md Jv aU Lc UV Bz Am Kp Ld YO Bn kR UQ YH ZU Cb Tg Uu Ut Te Vq Ys bS Vi Vv Vn Ti Zd aN Vu Ul Ax Lv Th Sx Ub Tz Vm Uy Vg Fe Ey Um Uh Tu Tl Nl Tk Xq kL jQ Ux jW kT kB jI Tb lC Mb Vb lF kN Om Vr; simp only [CC, eq_self, implies_true, forall_const, ANZ, EB]
 have hok := K.ok
 have hsg := K.sg
 have hm := K.m
 have hn := K.n
 have hst := K.st
 clear K
 generalize (feY x).s = S at *
 generalize OV x = C at *
 have hl : (PS C).r.length = (PS C).q.length := (kQ C C.ns.length).2
 have hF := AKQ hok hsg
 have hN : (RT C).e = 0 -> (PS C).r = [] /\ (PS C).q = [] := λ h0 => by
  rcases hF with ⟨_, e, _⟩ | ⟨e, _⟩
  ·rw [e] at hz
   have hz : (PS C).r = [] := hz
   exact ⟨hz, List.length_eq_zero_iff.1 (by rw [<- hl, hz]; rfl)⟩
  ·rw [e] at h0; cases h0
 have hq : (RT C).q = [] /\ (RT C).r = [] /\ ((RT C).e = 0 ∨ (RT C).e = 6) := by
  rcases hF with ⟨_, e, _⟩ | ⟨e, _⟩
  ·have e0 : (RT C).e = 0 := by rw [e]
   refine ⟨?_, hz, .inl e0⟩
   rw [e]; exact (hN e0).2
  ·rw [e]; exact ⟨rfl, rfl, .inr rfl⟩
 have hT : (RT C).e = 0 -> ∃ t, TrC C (WL ⟨C, (PS C).q⟩).sp t := λ h0 => by
  rcases hF with ⟨_, e, h⟩ | ⟨e, _⟩
  ·exact h
  ·rw [e] at h0; cases h0
 have hU : (RT C).e = 6 -> ∀ sp t, ¬ TrC C sp t := λ h0 => by
  rcases hF with ⟨_, e, h⟩ | ⟨_, h⟩
  ·rw [e] at h0; cases h0
  ·exact h
 clear hF
 have z0 : ∀ {p : Nat -> Prop}, ∀ i, i < 0 -> p i := λ i h => absurd h (Nat.not_lt_zero _)
 have aL : (allG (C.ms.length - 1)).length = C.ms.length - 1 := rng_length _ _
 refine ⟨⟨⟨⟨by omega, by omega⟩, λ _ => hn⟩, hq.1⟩, ⟨⟨⟨by omega, by omega⟩, λ _ => hn⟩, hq.2.1⟩, CMD hq.2.2, λ _ => ⟨λ h6 => ?_, λ h6 => ?_⟩⟩
 ·have h6 : (RT C).e = 6 := by simpa using h6
  refine ⟨⟨⟨default, h6⟩, λ _ => ⟨λ h => ⟨sz1, 1, ⟨rfl, rfl, rfl, λ i hi => by omega⟩, ⟨h6, by omega, ?_⟩, by omega⟩, λ h => ⟨default, ?_, h6⟩⟩, λ a ⟨a1, a2, a3⟩ => ⟨λ h => ⟨⟨by omega, λ h => (by cases h), by omega, by omega⟩, a + 1, ⟨rfl, (HH (by omega)).symm, rfl, λ i hi => ?_⟩, ⟨h6, by omega, ?_⟩, by omega⟩, λ h => ⟨default, ⟨?_, Nat.le_refl _, λ j hj => CBN hj⟩, h6⟩⟩⟩, λ _ => ⟨⟨by omega, by omega, by rw [aL]; omega⟩, ?_⟩⟩
  ·rw [PE (by omega) (by omega)] at h; omega
  ·rw [PE (by omega) (by omega)] at h; rw [aL]; omega
  ·by_cases q : i < a
   ·rw [decide_eq_true q]; rfl
   ·rw [decide_eq_false q]; show (i : Int) = a; omega
  ·rw [HH (by omega)] at h; omega
  ·rw [HH (by omega)] at h; rw [aL]; omega
  ·have A := ANC hok hsg (BMH hok (CDK (C.ms.length - 1)))
   rw [A.1]
   cases e : (mK (EE (CZ.mk C (allG (C.ms.length - 1))))).1 with
   | false => rfl
   | true => obtain ⟨t, ht⟩ := A.2.1 e; exact absurd ht (hU h6 _ t)
 have he : (RT C).e = 0 := by
  rcases hq.2.2 with e | e
  ·exact e
  ·rw [e] at h6; cases h6
 obtain ⟨t, ht⟩ := hT he
 obtain ⟨hr, hq0⟩ := hN he
 have hr20 : (PS C).r.length <= 20 := by rw [hr]; exact Nat.zero_le _
 refine ⟨⟨by omega, by omega, by omega⟩, ⟨rfl, by omega, by omega, by omega⟩, ⟨rfl, by omega, by omega, by omega⟩, BVM hok hsg ht (n := 0) (r := 0) (by rw [hq0]; rfl) (by rw [hr]; rfl) hr20 hq0.symm hr.symm, λ _ => ⟨⟨⟨default, he⟩, λ _ => ⟨default, he⟩⟩, λ _ => ⟨⟨⟨0, S⟩, ⟨rfl, rfl, λ _ _ => rfl, rfl, rfl⟩, he, by show 0 <= 6; omega, hst.mono (by show (36 : Int) <= 100 + 100 * ((0 : Nat) : Int); omega)⟩, λ a ⟨a0, a1, a2⟩ => ⟨λ hlt => ?_, λ hge => ?_⟩⟩⟩⟩
 ·have hlt : a.n < 6 := by omega
  refine ⟨⟨⟨⟨a.n, a.s, [], 0⟩, ⟨rfl, rfl, rfl, λ _ _ => rfl, rfl, rfl⟩, ⟨a0, rfl, hlt⟩, hm.1, a2.mono (by show (100 : Int) + 100 * (a.n : Int) <= 100 + 100 * (a.n : Int) + ((0 : Nat) : Int); omega)⟩, λ b ⟨b0, b1, b2⟩ => ⟨λ hk => ?_, λ hk => ?_⟩, λ b ⟨b0, bg, b1, b2⟩ => ⟨λ hk => ?_, λ hk => ?_⟩⟩, λ b ⟨b0, bg, b2⟩ => ?_⟩
  ·rw [HH (by omega)] at hk
   have hk : b.k + 1 < C.ms.length := by omega
   have s1 := b2.next (by omega) 3
   refine ⟨⟨⟨rfl, b2.used.1⟩, λ hz => ⟨sz1, ⟨b.n, AS b.s 3, [(b.k : Int)], b.k⟩, ⟨rfl, rfl, rfl, rfl, λ _ _ => rfl, rfl, rfl, rfl, λ i hi => BYB hi⟩, ⟨rfl, hk⟩, b0, BYO, s1.mono (by show _ <= 101 + 100 * (b.n : Int) + (b.k : Int); omega)⟩, λ hz => ⟨⟨b.n, AS b.s 3, [], b.k⟩, ⟨rfl, rfl, rfl, λ _ _ => rfl, rfl, rfl⟩, ⟨rfl, hk⟩, b0, s1.mono (by show _ <= 101 + 100 * (b.n : Int) + (b.k : Int); omega)⟩⟩, λ c ⟨⟨c1, c2⟩, c3, c4⟩ => ⟨⟨c.n, c.s, [], c.k + 1⟩, ⟨rfl, (HH (by omega)).symm, rfl, λ _ _ => rfl, rfl, rfl⟩, ⟨c3, c2, c4.mono (by show _ <= 100 + 100 * (c.n : Int) + ((c.k + 1 : Nat) : Int); omega)⟩, by show C.ms.length - (c.k + 1) < _; omega⟩, λ c ⟨⟨c1, c2⟩, c3, cg, c4⟩ => ⟨⟨c.n, c.s, c.q, c.k + 1⟩, ⟨rfl, rfl, (HH (by omega)).symm, rfl, λ _ _ => rfl, rfl, rfl, rfl, λ _ _ => rfl⟩, ⟨c3, cg, c2, c4.mono (by show _ <= 100 + 100 * (c.n : Int) + ((c.k + 1 : Nat) : Int); omega)⟩, by show C.ms.length - (c.k + 1) < _; omega⟩⟩
  ·exact ⟨⟨b.n, b.s, [], 0⟩, ⟨rfl, rfl, rfl, rfl, λ _ _ => rfl, rfl, rfl⟩, b0, BYX, b2.mono (by show _ <= 120 + 100 * (b.n : Int); omega)⟩
  ·rw [HH (by omega)] at hk
   have hk : b.k + 1 < C.ms.length := by omega
   have s1 := b2.next (by omega) 3
   have ql := BHH bg
   refine ⟨⟨⟨rfl, b2.used.1⟩, λ hz => ⟨⟨by omega, λ h => (by cases h), by omega, by omega⟩, ⟨b.n, AS b.s 3, b.q ++ [(b.k : Int)], b.k⟩, ⟨rfl, by simp, rfl, rfl, λ _ _ => rfl, rfl, rfl, by simp, λ i hi => APO _ _ (by simpa using hi)⟩, ⟨rfl, hk⟩, b0, BOM bg, s1.mono (by show _ <= 101 + 100 * (b.n : Int) + (b.k : Int); omega)⟩, λ hz => ⟨⟨b.n, AS b.s 3, b.q, b.k⟩, ⟨rfl, rfl, rfl, rfl, λ _ _ => rfl, rfl, rfl, rfl, λ _ _ => rfl⟩, ⟨rfl, hk⟩, b0, BQK bg (Nat.le_succ _), s1.mono (by show _ <= 101 + 100 * (b.n : Int) + (b.k : Int); omega)⟩⟩, λ c ⟨⟨c1, c2⟩, c3, cg, c4⟩ => ⟨⟨c.n, c.s, c.q, c.k + 1⟩, ⟨rfl, rfl, (HH (by omega)).symm, rfl, λ _ _ => rfl, rfl, rfl, rfl, λ _ _ => rfl⟩, ⟨c3, cg, c2, c4.mono (by show _ <= 100 + 100 * (c.n : Int) + ((c.k + 1 : Nat) : Int); omega)⟩, by show C.ms.length - (c.k + 1) < _; omega⟩⟩
  ·exact ⟨⟨b.n, b.s, b.q, 0⟩, ⟨rfl, rfl, Nat.le_refl _, λ _ _ => rfl, rfl, λ _ _ => rfl, rfl, rfl⟩, b0, BQK bg (by omega), b2.mono (by show _ <= 120 + 100 * (b.n : Int); omega)⟩
  ·have ql := BHH bg
   refine ⟨⟨by omega, by omega, by omega⟩, BTW hok hsg (BMH hok bg) (Nat.zero_le _), λ _ => ⟨⟨⟨⟨b.n, b.s, [], 0⟩, ⟨rfl, rfl, rfl, λ _ _ => rfl, rfl, rfl⟩, b0, Nat.zero_le _, b2.mono (by show _ <= 120 + 100 * (b.n : Int) + 2 * ((0 : Nat) : Int); omega)⟩, λ c ⟨c0, c1, c2⟩ => ⟨λ hk => ?_, λ hk => ?_⟩, λ c ⟨c0, ⟨cz, cl⟩, c1, c2⟩ => ⟨λ hk => ?_, λ hk => ?_⟩⟩, λ c ⟨c0, ⟨cz, cl⟩, c2⟩ => ?_⟩⟩
   ·have hk : c.k < C.ns.length := by omega
    have s1 := c2.next (by omega) (C.ns.length : Int)
    have v1 := LS c2 (by omega) (C.ns.length : Int)
    have v1b := v1.2 (by omega)
    refine ⟨⟨⟨c2.used.1, ⟨c.n, AS c.s (C.ns.length : Int), [], c.k, AV c.s (C.ns.length : Int)⟩, ⟨rfl, rfl, rfl, λ _ _ => rfl, rfl, rfl, rfl, rfl⟩, ⟨rfl, hk⟩, ⟨v1.1, v1b⟩, c0, s1.mono (by show _ <= 121 + 100 * (c.n : Int) + 2 * (c.k : Int); omega)⟩, λ d ⟨⟨d1, d2⟩, d3, d4, d5⟩ => ⟨λ hl => ⟨⟨d3, ⟨by omega, by omega⟩, rfl, d5.used.1⟩, λ hb => ⟨sz2, ⟨d.n, AS d.s 2, [⟨d.y, d.k⟩], d.k⟩, ⟨rfl, rfl, rfl, rfl, λ _ _ => rfl, rfl, rfl, rfl, λ i hi => BQI hi⟩, ⟨d1, d2⟩, d4, ⟨BQL (AXP (by omega) d3 d2 hb), by show 1 <= d.k + 1; omega⟩, (d5.next (by omega) 2).mono (by show _ <= 122 + 100 * (d.n : Int) + 2 * (d.k : Int); omega)⟩, λ hb => ⟨⟨d.n, AS d.s 2, [], d.k⟩, ⟨rfl, rfl, rfl, λ _ _ => rfl, rfl, rfl⟩, ⟨d1, d2⟩, d4, (d5.next (by omega) 2).mono (by show _ <= 122 + 100 * (d.n : Int) + 2 * (d.k : Int); omega)⟩⟩, λ hl => ⟨⟨d3, by omega, by omega⟩, λ hb => AXF hl hb, λ hb => ⟨⟨d.n, d.s, [], d.k⟩, ⟨rfl, rfl, rfl, λ _ _ => rfl, rfl, rfl⟩, ⟨d1, d2⟩, d4, d5.mono (by show _ <= 122 + 100 * (d.n : Int) + 2 * (d.k : Int); omega)⟩⟩⟩⟩, λ d ⟨⟨d1, d2⟩, d3, d4⟩ => ⟨⟨d.n, d.s, [], d.k + 1⟩, ⟨rfl, (HH (by omega)).symm, rfl, λ _ _ => rfl, rfl, rfl⟩, ⟨d3, d2, d4.mono (by show _ <= 120 + 100 * (d.n : Int) + 2 * ((d.k + 1 : Nat) : Int); omega)⟩, by show C.ns.length - (d.k + 1) < _; omega⟩, λ d ⟨⟨d1, d2⟩, d3, ⟨dz, dl⟩, d4⟩ => ⟨⟨d.n, d.s, d.q, d.k + 1⟩, ⟨rfl, rfl, (HH (by omega)).symm, rfl, λ _ _ => rfl, rfl, rfl, rfl, λ _ _ => ⟨rfl, rfl⟩⟩, ⟨d3, ⟨dz, dl⟩, d2, d4.mono (by show _ <= 120 + 100 * (d.n : Int) + 2 * ((d.k + 1 : Nat) : Int); omega)⟩, by show C.ns.length - (d.k + 1) < _; omega⟩⟩
   ·exact ⟨⟨c.n, c.s, [], 0⟩, ⟨rfl, rfl, rfl, rfl, λ _ _ => rfl, rfl, rfl⟩, c0, ⟨λ z hz => by (cases hz), Nat.zero_le _⟩, c2.mono (by show _ <= 160 + 100 * (c.n : Int); omega)⟩
   ·have hk : c.k < C.ns.length := by omega
    have s1 := c2.next (by omega) (C.ns.length : Int)
    have v1 := LS c2 (by omega) (C.ns.length : Int)
    have v1b := v1.2 (by omega)
    refine ⟨⟨⟨c2.used.1, ⟨c.n, AS c.s (C.ns.length : Int), c.q, c.k, AV c.s (C.ns.length : Int)⟩, ⟨rfl, rfl, rfl, rfl, λ _ _ => rfl, rfl, rfl, rfl, λ _ _ => ⟨rfl, rfl⟩, rfl, rfl⟩, ⟨rfl, hk⟩, ⟨v1.1, v1b⟩, c0, ⟨cz, cl⟩, s1.mono (by show _ <= 121 + 100 * (c.n : Int) + 2 * (c.k : Int); omega)⟩, λ d ⟨⟨d1, d2⟩, d3, d4, ⟨dz, dl⟩, d5⟩ => ⟨λ hl => ⟨⟨d3, ⟨by omega, by omega⟩, rfl, d5.used.1⟩, λ hb => ⟨⟨by omega, λ h => (by cases h), by omega, by omega⟩, ⟨d.n, AS d.s 2, d.q ++ [⟨d.y, d.k⟩], d.k⟩, ⟨rfl, by simp, rfl, rfl, λ _ _ => rfl, rfl, rfl, by simp, λ i hi => BLD _ _ hi⟩, ⟨d1, d2⟩, d4, ⟨BKZ dz (AXP (by omega) d3 d2 hb), by show (d.q ++ [_]).length <= d.k + 1; rw [List.length_append, List.length_singleton]; omega⟩, (d5.next (by omega) 2).mono (by show _ <= 122 + 100 * (d.n : Int) + 2 * (d.k : Int); omega)⟩, λ hb => ⟨⟨d.n, AS d.s 2, d.q, d.k⟩, ⟨rfl, rfl, rfl, rfl, λ _ _ => rfl, rfl, rfl, rfl, λ _ _ => ⟨rfl, rfl⟩⟩, ⟨d1, d2⟩, d4, ⟨dz, by show d.q.length <= d.k + 1; omega⟩, (d5.next (by omega) 2).mono (by show _ <= 122 + 100 * (d.n : Int) + 2 * (d.k : Int); omega)⟩⟩, λ hl => ⟨⟨d3, by omega, by omega⟩, λ hb => AXF hl hb, λ hb => ⟨⟨d.n, d.s, d.q, d.k⟩, ⟨rfl, rfl, rfl, rfl, λ _ _ => rfl, rfl, rfl, rfl, λ _ _ => ⟨rfl, rfl⟩⟩, ⟨d1, d2⟩, d4, ⟨dz, by show d.q.length <= d.k + 1; omega⟩, d5.mono (by show _ <= 122 + 100 * (d.n : Int) + 2 * (d.k : Int); omega)⟩⟩⟩⟩, λ d ⟨⟨d1, d2⟩, d3, ⟨dz, dl⟩, d4⟩ => ⟨⟨d.n, d.s, d.q, d.k + 1⟩, ⟨rfl, rfl, (HH (by omega)).symm, rfl, λ _ _ => rfl, rfl, rfl, rfl, λ _ _ => ⟨rfl, rfl⟩⟩, ⟨d3, ⟨dz, dl⟩, d2, d4.mono (by show _ <= 120 + 100 * (d.n : Int) + 2 * ((d.k + 1 : Nat) : Int); omega)⟩, by show C.ns.length - (d.k + 1) < _; omega⟩⟩
   ·exact ⟨⟨c.n, c.s, c.q, 0⟩, ⟨rfl, rfl, Nat.le_refl _, λ _ _ => ⟨rfl, rfl⟩, rfl, λ _ _ => rfl, rfl, rfl⟩, c0, ⟨cz, by show c.q.length <= 20; omega⟩, c2.mono (by show _ <= 160 + 100 * (c.n : Int); omega)⟩
   ·have s1 := c2.next (by omega) 5
    exact ⟨⟨rfl, c2.used.1⟩, ⟨by omega, by omega, by omega⟩, BQP hok ht cl cz (by rw [hq0]; rfl), λ _ => ⟨⟨c.n + 1, AS c.s 5⟩, ⟨(HH (by omega)).symm, rfl, λ _ _ => rfl, rfl, rfl⟩, ⟨c0.1, by show c.n + 1 <= 6; omega, s1.mono (by show _ <= 100 + 100 * ((c.n + 1 : Nat) : Int); omega)⟩, by show 6 - (c.n + 1) < _; omega⟩⟩
 ·refine ⟨⟨rfl, by omega, by omega, by omega⟩, ?_⟩
  have P := tB hok 0 (List.Perm.refl (PS C).r)
  rw [hr] at P
  have V := O5 (x := ⟨C, 0, nilP⟩) hok (Nat.zero_le _) λ p hp => by cases hp
  have V : QY ⟨C, 0, nilP⟩ = (true, 0) := by rw [V]; rfl
  show true = bif bif (QY ⟨C, 0, nilP⟩).2 == 0 then (QY ⟨C, 0, nilP⟩).1 else false then true else false
  rw [V]; rfl
end Go.Bal
