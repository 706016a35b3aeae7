/- Law ChartMore: it returns true. -/
import Derived.Test.YtdbjalgfomknhaaChMo3
import Derived.Test.YtdbjalgfomknhaaChP
import Derived.Test.YtdbjalgfomknhaaChWT1
set_option linter.unusedVariables false
set_option linter.unusedSimpArgs false
namespace Go.Bal
open Go Go.Sym Go.Proofs
theorem DKW {n : Nat} (h1 : 1 <= n) (h2 : n <= 60) : IntKind.i64.wrap ((n : Int) - 1) = ((n - 1 : Nat) : Int) := by rw [EM (by omega) (by omega)]; omega
theorem DMH (f : Nat -> Int) : AE 0 f = rM := rfl
theorem CZJ : ∀ (z : List Int) (a b : Int), z.Pairwise (· < ·) -> (∀ g ∈ z, a <= g /\ g < b) -> (z.length : Int) <= b - a ∨ z = [] := by
 intro z
 induction z with
 | nil => intro _ _ _ _; exact .inr rfl
 | cons g r ih =>
  intro a b hp hb
  rw [List.pairwise_cons] at hp
  have h0 := hb g (List.mem_cons_self ..)
  left
  rw [List.length_cons]
  rcases ih (g + 1) b hp.2 (λ x hx => by have := hp.1 x hx; have := hb x (List.mem_cons_of_mem _ hx); omega) with h | h
  ·omega
  ·subst h; show (((0 + 1 : Nat)) : Int) <= _; omega
set_option maxHeartbeats 4000000 in
theorem DRV (x : MoI) (hf : MoF x) (h0 : 0 < (AH x).ns.length) : DKT x := by
 obtain ⟨hs, ⟨us0, us1, us2, us3, us4, us5⟩, ug, ⟨⟨n1, n2⟩, n3, n4, n5, n6⟩, tm, fe, fr, sg, ql, t1, tn, te, tf, tc, w1, wn, we, wf, wc, s1, sc, ⟨l1, l2, l3, l4⟩, ⟨st1, st2, st3⟩, ⟨sl1, sl2, sl3, sl4⟩⟩ := hf
 rw [DNF]; delta CJR ACC BIR BHR CKX CJK CDX CGP BHP CMI BMC VR AET AAW Qi L7 Nu Qo Rh Zl Ue Rq Vi BUY L4 W8 ACB Gp Ss CBE BZT BKM BLX BWK Wr BRB ACZ Zg O2 PV Pd AAU BKT BXT BJL BNT BQT CAR BKJ BQH BYM BJY BXQ BRN BTC BYW Yg AEV CAL U5 Q0 ACA M0 BJI BLS Q6 BLC BJN BQN BWG BKQ CBD BOQ BD BNM AER V2 P0 P3 AAC BTQ BTU BXR BUW T3 BZO DQ DP DG DM Ol DO DN FO FI DY FT JG IR JP GS GK GN ARD TY TF nM APP AIE AIK AOO gG BCY AVJ pQ AGI ARQ AGU BDU AKF AVL lN AXZ AQQ cW AFL ATE AIP fB AZD Bz lI AOJ AUH BBJ kS AKQ BBP AIG lX BDG Cs jH BDR fF APK AWV ARS eR BDE Ex oT AYL AXS gQ AWU SA AGW mX AUB ATT AGV ARY BBO kZ RZ iZ BDC AHB AVB AVU AUN APQ AJK BCL AOU lH AMP APB oA ASV AKV BCN iE ATP Cm qZ AGL AMN mT ARO kX HS HX OH PD NJ PG Gu AZX oX AXG ASK dI kA cI ANT TS LB LQ TL TB SZ TE APL NO AJT AJY AMQ nR AFW jG AUV De lK nE nX AOH Gx AQX cN iQ kQ AHT qY AVV pP AHM ALB AOG mK ANE AKS AUK AGT BBM ANK ANW BDO gR AYR nH oN pM AKB oP hC Gv dK eS ANS AUR gU TW kC Eg En BAL BCT lV BBZ oB dF ALG AYW AWK eE Gk BAT nG BAI BBI ASJ ALH BAF jV jI fN AQB qM dH jJ dS mV AGZ BEN fY qN fG AWQ ATH BAP ANG BBG lY BCG ANF lD BAS AUA BCD AFM BEE TP qT kI AQA mJ AOK AGR rI dV dQ AIQ pZ BAB AKR AVH pW nO nS ATJ AFS ATN APH oK oD mW AVO dX gJ ART AWT ARK lC BCU AFR AKN BER AIX ARG AQO AQP AON AWC; simp only [CC, eq_self, implies_true, forall_const, DMH, CIM, show MkI.mk (Stm.mk x.bs 0 0) 12 true = moM x from rfl, show Stm.mk x.cs 0 0 = BH x from rfl, show HT (moM x) = AH x from rfl, show xZ (moM x) = BI x from rfl, BO, show CZ.mk (AH x) (BI x).z = moZ x from rfl, tm, fe, t1, te, w1, we, s1]
 have eF : (CJ (AH x)).q = Mw x := by simp only [Mw]
 have eFr : Gy (AH x) (AH x).ms.length = CS x := by simp only [CS]
 have e1 : AQ (BH x) 20 = Ja x := by simp only [Ja]
 have e2 : AQ (Ja x) 20 = Ml x := by simp only [Ml]
 have e3 : AQ (Ml x) 5 = Lf x := by simp only [Lf]
 have e4 : AQ (Lf x) 5 = moS4 x := by simp only [moS4]
 have eSw : AQ (CP x) 3 = Kv x := by simp only [Kv]
 have eSg : AQ (Kv x) 3 = moSg x := by simp only [moSg]
 have eS0 : BH x = ⟨x.cs, 0, 0⟩ := by simp only [BH]
 have eB : (bif decide (CS x >= 0) then decide ((((AH x).ns.length : Int)) < 20) else false) = moB x := by simp only [moB]
 have wn1 : IntKind.i64.wrap (((AH x).ms.length : Int) - 1) = (((AH x).ms.length - 1 : Nat) : Int) := DKW n1 (Nat.le_trans n2 (by decide))
 simp only [eF, e1, e2, e3, e4, eSw, eSg, n5, n6, l1, l2, l3, l4, <- eS0, eB, wn1, tc, wc, sc, st1, st2, st3]
 have eN : moN x = ⟨CS x, ⟨BJ 0 (wr (gD (BI x).t (CS x).toNat - AL (BH x) 20)), wr (gD (BI x).t (CS x).toNat + AL (Ja x) 20)⟩, ⟨wr (gD (BI x).s (CS x).toNat - AL (Ml x) 5), wr (gD (BI x).s (CS x).toNat + AL (Lf x) 5)⟩⟩ := by simp only [moN]
 have eTo : AJ x = bif moB x then EO (AH x) (moN x) else AH x := by
  simp only [AJ, moNs, EO]
  cases moB x with
  | true => simp only [cond_true]
  | false => simp only [cond_false]
 have eSt : CP x = bif moB x then moS4 x else BH x := by simp only [CP]
 have eWi : AM x = ⟨moP x, (AH x).base, (AH x).scale, (AH x).off, (AH x).ms, (AH x).ns⟩ := by simp only [AM]
 have eP : moP x = ⟨BJ 1 (wr ((AH x).p.lo - AL (CP x) 3)), wr ((AH x).p.hi + AL (Kv x) 3)⟩ := by simp only [moP]
 have G0 : BL x 0 = ⟨moSg x, 0, []⟩ := by simp only [BL, sgK]
 have Gs : ∀ k, BL x (k + 1) = OZ (BI x).z k (BL x k) := λ k => by simp only [BL, sgK]
 have eQ : QL x = (BL x ((AH x).ms.length - 1)).q := by simp only [QL]
 have eX : MP x = wr (gD (BI x).t 0 + MX x.t (wr (wr (gD (BI x).t ((AH x).ms.length - 1) - gD (BI x).t 0) + 1))) := by simp only [MP]
 have q0 : (BH x).bs = x.cs /\ (BH x).used = 0 /\ (BH x).mix = 0 := by rw [eS0]; exact ⟨rfl, rfl, rfl⟩
 have eM : (AJ x).ms.length = (AH x).ms.length := by
  rw [eTo]
  cases moB x with
  | true => simp only [cond_true, EO]
  | false => simp only [cond_false]
 have eW : (AM x).ms.length = (AH x).ms.length := by rw [eWi]
 simp only [eM, eW]
 clear tm fe t1 te w1 we s1 eF e1 e2 e3 e4 eSw eSg eS0 l1 l2 l3 l4 n5 n6
 generalize AW ⟨moZ x, MP x⟩ = U at *
 generalize AW ⟨⟨AJ x, (BI x).z⟩, MP x⟩ = V at *
 generalize AW ⟨⟨AH x, QL x⟩, MP x⟩ = Wg at *
 generalize CJ (AJ x) = Ft at *
 generalize CJ (AM x) = Fw at *
 clear tc wc sc
 generalize moM x = M at *
 generalize AH x = C at *
 generalize BI x = T at *
 generalize CS x = f at *
 generalize moB x = B at *
 generalize moN x = N at *
 generalize AJ x = To at *
 generalize BH x = S0 at *
 generalize Ja x = S1 at *
 generalize Ml x = S2 at *
 generalize Lf x = S3 at *
 generalize moS4 x = S4 at *
 generalize CP x = St at *
 generalize Kv x = Sw at *
 generalize moSg x = Sg at *
 generalize moP x = P at *
 generalize AM x = Wi at *
 generalize BL x = G at *
 generalize QL x = Q at *
 generalize MP x = X at *
 generalize RO x = L at *
 generalize Mw x = F at *
 have b0 : ((0 : Int) != 0) = false := rfl
 simp only [b0, cond_false, Bool.not_true]
 have ws : ∀ a : Nat, a <= 60 -> IntKind.i64.wrap ((a : Int) + 1) = ((a + 1 : Nat) : Int) := λ a h => GC (by omega)
 have gl : ∀ k, k <= 40 -> (G k).q.length <= 40 /\ (G k).nx <= 40 := λ k hk => by
  have I := sg k
  refine ⟨?_, Nat.le_trans I.nx n4⟩
  rcases CZJ (G k).q 0 k I.up I.q with q | q
  ·omega
  ·rw [q]; decide
 have hz3 : T.z.length < 4611686018427387904 := by omega
 have h3 : C.ms.length < 4611686018427387904 /\ C.ns.length < 4611686018427387904 /\ T.z.length < 4611686018427387904 := ⟨by omega, by omega, hz3⟩
 have h3t : C.ms.length < 4611686018427387904 /\ To.ns.length < 4611686018427387904 /\ T.z.length < 4611686018427387904 := ⟨by omega, by omega, hz3⟩
 have h3w : C.ms.length < 4611686018427387904 /\ Wi.ns.length < 4611686018427387904 /\ T.z.length < 4611686018427387904 := ⟨by omega, by omega, hz3⟩
 have h3q : C.ms.length < 4611686018427387904 /\ C.ns.length < 4611686018427387904 /\ Q.length < 4611686018427387904 := ⟨by omega, by omega, by omega⟩
 have isE : ∀ k, (bif decide (((G k).nx : Int) < T.z.length) then gD T.z (G k).nx == (k : Int) else false) = Ir T.z k (G k) := λ _ => rfl
 have GsT : ∀ k, Ir T.z k (G k) = true -> G (k + 1) = ⟨(G k).s, (G k).nx + 1, (G k).q ++ [(k : Int)]⟩ := λ k h => by rw [Gs]; unfold OZ; rw [h]; rfl
 have GsA : ∀ k, Ir T.z k (G k) = false -> (AL (G k).s 4 == 0) = true -> G (k + 1) = ⟨AQ (G k).s 4, (G k).nx, (G k).q ++ [(k : Int)]⟩ := λ k h h2 => by rw [Gs]; unfold OZ; rw [h, h2]; rfl
 have GsB : ∀ k, Ir T.z k (G k) = false -> (AL (G k).s 4 == 0) = false -> G (k + 1) = ⟨AQ (G k).s 4, (G k).nx, (G k).q⟩ := λ k h h2 => by rw [Gs]; unfold OZ; rw [h, h2]; rfl
 have sn : ∀ (q : List Int) (k : Int) (i : Nat), i < (q ++ [k]).length -> gD (q ++ [k]) i = bif decide (i < q.length) then gD q i else k := λ q k i hi => eT _ _ (by simpa using hi)
 refine ⟨⟨rfl, hs, by decide, by decide⟩, h3, ⟨⟨h3.1, h3.2.1⟩, λ _ => n3⟩, (λ h => by cases h), λ _ => ⟨⟨⟨by omega, h0, by omega⟩, by omega, by omega⟩, ⟨⟨0, ⟨trivial, λ _ _ => trivial, rfl, rfl, by rw [q0.1], λ _ _ => by rw [q0.1], q0.2.1, q0.2.2, λ i hi => absurd hi (Nat.not_lt_zero _)⟩, Nat.zero_le _⟩, λ k hk => ⟨λ hlt => ?_, λ hge => ?_⟩⟩, ⟨λ hB => ?_, λ hB => ?_⟩, ⟨rfl, us4, rfl, us5⟩, ⟨⟨0, ?_, Nat.zero_le _⟩, λ k hk => ⟨λ hlt => ?_, λ hge => ?_⟩⟩, h3t, h3w, h3q, ⟨⟨λ _ => ⟨h3.1, h3.1⟩, λ _ => ⟨h3.1, h3.1⟩, λ _ => ⟨h3.1, h3.1⟩⟩, (λ h => by cases h), λ _ => ⟨default, trivial⟩⟩, ⟨⟨h3t.1, h3t.2.1⟩, λ _ => tn⟩, ⟨⟨h3w.1, h3w.2.1⟩, λ _ => wn⟩, ⟨λ h => ?_, λ _ => ⟨default, trivial⟩⟩, ⟨⟨⟨by decide, by omega⟩, ⟨by omega, by omega⟩, by decide, by omega⟩, default, ?_⟩, h3, h3t, h3q, ?_⟩⟩
 ·refine ⟨⟨⟨⟨k, 0⟩, ⟨rfl, rfl, rfl, rfl⟩, ⟨by show k < C.ms.length; omega, rfl⟩, Nat.zero_le _⟩, ?_⟩, ?_⟩
  ·rintro ⟨k2, j⟩ ⟨⟨q1, q2⟩, q3⟩
   dsimp only at q1 q2 q3 ⊢
   obtain rfl : k2 = k := by omega
   refine ⟨λ hj => ⟨λ _ => ⟨by omega, hj⟩, ⟨⟨k2, j + 1⟩, ⟨rfl, rfl, rfl, (ws j (by omega)).symm⟩, ⟨⟨q1, rfl⟩, by show j + 1 <= C.ns.length; omega⟩, by show C.ns.length - (j + 1) < C.ns.length - j; omega⟩⟩, λ hj => ?_⟩
   obtain rfl : j = C.ns.length := by omega
   rw [CUY]
   refine ⟨λ hh => ⟨k2, ⟨?_, rfl⟩, q1, rfl⟩, λ hh => ⟨k2, ⟨?_, rfl⟩, q1, rfl⟩⟩
   ·show (bif hasN C.ns (k2 : Int) then Gy C k2 else (k2 : Int)) = _
    rw [hh]; rfl
   ·show (bif hasN C.ns (k2 : Int) then Gy C k2 else (k2 : Int)) = _
    rw [hh]; rfl
  ·rintro a ⟨q1, q2⟩
   exact ⟨a + 1, ⟨rfl, (ws a (by omega)).symm⟩, by omega, by omega⟩
 ·obtain rfl : k = C.ms.length := by omega
  exact ⟨default, eFr.symm⟩
 ·subst hB
  have eTo : To = EO C N := eTo
  have eSt : St = S4 := eSt
  have lT : To.ns.length = C.ns.length + 1 := by rw [eTo]; show (C.ns ++ [N]).length = _; simp
  have f0 : 0 <= f := by
   cases hd : decide (f >= 0) with
   | true => exact of_decide_eq_true hd
   | false => rw [hd] at eB; cases eB
  have ff : 0 <= f /\ f < C.ms.length := fr.resolve_left (by omega)
  have aT : ∀ j, j < C.ns.length + 1 -> ((gD To.ns j).mi = bif decide (j < C.ns.length) then (gD C.ns j).mi else f) /\ ((gD To.ns j).t.lo = bif decide (j < C.ns.length) then (gD C.ns j).t.lo else BJ 0 (IntKind.i64.wrap (gD T.t f.toNat - AL S0 20))) /\ ((gD To.ns j).t.hi = bif decide (j < C.ns.length) then (gD C.ns j).t.hi else IntKind.i64.wrap (gD T.t f.toNat + AL S1 20)) /\ ((gD To.ns j).s.lo = bif decide (j < C.ns.length) then (gD C.ns j).s.lo else IntKind.i64.wrap (gD T.s f.toNat - AL S2 5)) /\ (gD To.ns j).s.hi = bif decide (j < C.ns.length) then (gD C.ns j).s.hi else IntKind.i64.wrap (gD T.s f.toNat + AL S3 5) := λ j hj => by
   have e : gD To.ns j = bif decide (j < C.ns.length) then gD C.ns j else N := by rw [eTo]; exact eT _ _ hj
   rw [e, eN]
   cases decide (j < C.ns.length) <;> exact ⟨rfl, rfl, rfl, rfl, rfl⟩
  exact ⟨⟨ff, rfl, us0, ff, rfl, us1, ff, rfl, us2, ff, rfl, us3, Nat.one_pos, (λ h => by cases h), by omega, by omega⟩, ⟨default, by rw [eSt], λ _ _ => by rw [eSt], by rw [eSt], by rw [eSt], by rw [eTo]; rfl, by rw [eTo]; rfl, by rw [eTo]; rfl, by rw [eTo]; rfl, by rw [eTo]; rfl, trivial, λ _ _ => by rw [eTo]; exact ⟨rfl, rfl⟩, lT, by omega, λ j hj => aT j (by omega)⟩⟩
 ·subst hB
  have eTo : To = C := eTo
  have eSt : St = S0 := eSt
  exact ⟨default, by rw [eSt], λ _ _ => by rw [eSt], by rw [eSt], by rw [eSt], by rw [eTo], by rw [eTo], by rw [eTo], by rw [eTo], by rw [eTo], trivial, λ _ _ => by rw [eTo]; exact ⟨rfl, rfl⟩, by rw [eTo], Nat.le_refl _, λ j _ => by rw [eTo]; exact ⟨rfl, rfl, rfl, rfl, rfl⟩⟩
 ·refine ⟨by rw [G0]; rfl, by rw [G0]; rfl, rfl, by rw [G0], λ _ _ => by rw [G0], by rw [G0], by rw [G0], by rw [eWi, eP]; rfl, by rw [eWi, eP]; rfl, by rw [eWi], by rw [eWi], by rw [eWi], trivial, λ _ _ => by rw [eWi]; exact ⟨rfl, rfl⟩, by rw [eWi], λ _ _ => by rw [eWi]; exact ⟨rfl, rfl, rfl, rfl, rfl⟩, by rw [G0]; rfl, λ i _ => by rw [G0]; rfl⟩
 ·rw [ws k (by omega)] at hlt
  have hk1 : k < C.ms.length - 1 := by omega
  rw [isE k, ws _ (Nat.le_trans (gl k (by omega)).2 (by decide))]
  refine ⟨⟨λ h => ⟨by omega, h⟩, ⟨λ h => ⟨k, ⟨rfl, rfl, rfl, h.symm, rfl, rfl, λ _ _ => rfl, rfl, rfl, rfl, λ _ _ => rfl⟩, ⟨hk1, rfl⟩, h⟩, λ h => ⟨k, ⟨rfl, rfl, rfl, h.symm, rfl, λ _ _ => rfl, rfl, rfl, rfl, λ _ _ => rfl⟩, ⟨hk1, rfl⟩, h⟩⟩, ?_, ?_⟩, ?_⟩
  ·rintro a ⟨⟨q1, q2⟩, q3⟩
   obtain rfl : a = k := by omega
   have gg := gl a (by omega)
   have e := GsT a q3
   exact ⟨(λ h => by cases h), ⟨Nat.one_pos, (λ h => by cases h), by omega, by omega⟩, a, ⟨by rw [e]; simp, by rw [e]; rfl, rfl, by rw [e], λ _ _ => by rw [e], by rw [e], by rw [e], by rw [e]; simp, λ i hi => by rw [e] at hi ⊢; exact sn _ _ _ hi⟩, q1, rfl⟩
  ·rintro a ⟨⟨q1, q2⟩, q3⟩
   obtain rfl : a = k := by omega
   have gg := gl a (by omega)
   refine ⟨⟨rfl, ug a (by omega)⟩, λ h => ?_, λ h => ?_⟩
   ·have e := GsA a q3 h
    exact ⟨⟨Nat.one_pos, (λ h => by cases h), by omega, by omega⟩, a, ⟨by rw [e]; simp, by rw [e], rfl, by rw [e], λ _ _ => by rw [e], by rw [e], by rw [e], by rw [e]; simp, λ i hi => by rw [e] at hi ⊢; exact sn _ _ _ hi⟩, q1, rfl⟩
   ·have e := GsB a q3 h
    exact ⟨a, ⟨by rw [e], by rw [e], rfl, by rw [e], λ _ _ => by rw [e], by rw [e], by rw [e], by rw [e], λ _ _ => by rw [e]⟩, q1, rfl⟩
  ·rintro a ⟨q1, q2⟩
   exact ⟨a + 1, ⟨rfl, rfl, (ws a (by omega)).symm, rfl, λ _ _ => rfl, rfl, rfl, rfl, λ _ _ => rfl⟩, by omega, by omega⟩
 ·rw [ws k (by omega)] at hge
  obtain rfl : k = C.ms.length - 1 := by omega
  exact ⟨default, by rw [eQ], Nat.le_refl _, λ _ _ => by rw [eQ]⟩
 ·have a1 : decide ((Ft.q.length : Int) < F.length) = false := decide_eq_false (by omega)
  have a2 : decide ((Fw.q.length : Int) > F.length) = false := decide_eq_false (by omega)
  rw [a1, a2] at h; cases h
 ·rw [eX]; rfl
 ·have a1 : decide (U.1.hi >= V.1.hi) = true := decide_eq_true sl2
  have a2 : decide (Wg.1.hi >= U.1.hi) = true := decide_eq_true sl4
  rw [decide_eq_true sl1, decide_eq_true sl3, a1, a2]; rfl
set_option maxHeartbeats 4000000 in
theorem DQF (x : MoI) (hf : MoF x) (h0 : (AH x).ns.length = 0) : DKS x := by
 obtain ⟨hs, ⟨us0, us1, us2, us3, us4, us5⟩, ug, ⟨⟨n1, n2⟩, n3, n4, n5, n6⟩, tm, fe, fr, sg, ql, t1, tn, te, tf, tc, w1, wn, we, wf, wc, s1, sc, ⟨l1, l2, l3, l4⟩, ⟨st1, st2, st3⟩, ⟨sl1, sl2, sl3, sl4⟩⟩ := hf
 rw [DPB]; delta CIL ABW BJE BGD CMA CML CJE CJI BGU CJA BQL VI ADL AEU Zn O9 Pa bD Pn Wd Pk Yw Uf BRD ADF P2 Q3 Ch Uy BSX BSY BRR BTD BVI Xa BRY L2 Zi W3 QI Pv W5 BLW BVU BKU BQI BMV BKK BKP BML BYJ BPS BKI BTF BSU BQG Ou ACX BQC R0 AEL ACD ADY BXS BQJ W9 BKC BWQ BSD BZC BMS BPN BG BVM T9 ADZ Z9 O3 ABE BMQ BSF BWX BLG BNP DI DK DR DJ Us EC DZ GM GO HL HM IS JA JH JQ IX GR dR SV SY gX AXN BEW AWH AUF mF AXV AUC pL AWL AIS AZP AIA BCW BDP pO AMJ AJX dB AWR AQL AVG pN BCQ Dp rG BEU AWB ALW iC BCF AYN ARR dU AVY Cn fH BCH jS ASP BDM AUL kT ANQ Fg oE qL Bu ATS kO ASA BBY AZH AVC BCB ALP AOB oM AJL ATB qF ATO AJV AOA lQ BEH Cx gS AWW AKJ rF AVS fD HR HU NH NK OR NB Es AIL gV AJG AXB jX qI cV AOT RV LJ LM UB UD SK SD AIH MZ ARI AYJ AYB kB AMS dP AKI Fm dD jD fJ AOC Dq AHE mH fO nK AKA eV ALJ pS BAX ALI BEA jM AXL AMZ BDZ AIV BEC ALL AKX AKP iM BCZ kH cO pK AIB rE lR Ej iR lO AZZ AME pG TM mQ Ce Dh AOD ATD hZ ATW cS cZ AMG AGF ASU qA Db ASB cK AZQ AYG AZI ASG ANR iI kU dZ ANA fW mY fX qE nY BBT AWM kG mP cU APJ ALV AZV ARZ AUG fZ AQK AFB iW BCP AWX BCA AQY AQU TA nQ pY AXW cP ASX AZU nU pA pC APN oG BAZ BBB BBL oF jA gB AJM AXK AXT AXO dJ pF oU AOX lM iT BBQ ALC AVN dC AHA AUZ AKZ APM AZA BET AHH AZS AUM AUT; simp only [CC, eq_self, implies_true, forall_const, DMH, CIM, show MkI.mk (Stm.mk x.bs 0 0) 12 true = moM x from rfl, show Stm.mk x.cs 0 0 = BH x from rfl, show HT (moM x) = AH x from rfl, show xZ (moM x) = BI x from rfl, BO, show CZ.mk (AH x) (BI x).z = moZ x from rfl, tm, fe, t1, te, w1, we, s1]
 have eF : (CJ (AH x)).q = Mw x := by simp only [Mw]
 have eFr : Gy (AH x) (AH x).ms.length = CS x := by simp only [CS]
 have e1 : AQ (BH x) 20 = Ja x := by simp only [Ja]
 have e2 : AQ (Ja x) 20 = Ml x := by simp only [Ml]
 have e3 : AQ (Ml x) 5 = Lf x := by simp only [Lf]
 have e4 : AQ (Lf x) 5 = moS4 x := by simp only [moS4]
 have eSw : AQ (CP x) 3 = Kv x := by simp only [Kv]
 have eSg : AQ (Kv x) 3 = moSg x := by simp only [moSg]
 have eS0 : BH x = ⟨x.cs, 0, 0⟩ := by simp only [BH]
 have eB : (bif decide (CS x >= 0) then decide ((((0 : Nat) : Int)) < 20) else false) = moB x := by simp only [moB, h0]
 have wn1 : IntKind.i64.wrap (((AH x).ms.length : Int) - 1) = (((AH x).ms.length - 1 : Nat) : Int) := DKW n1 (Nat.le_trans n2 (by decide))
 simp only [eF, e1, e2, e3, e4, eSw, eSg, n5, n6, l1, l2, l3, l4, <- eS0, eB, wn1, tc, wc, sc, st1, st2, st3]
 have eN : moN x = ⟨CS x, ⟨BJ 0 (wr (gD (BI x).t (CS x).toNat - AL (BH x) 20)), wr (gD (BI x).t (CS x).toNat + AL (Ja x) 20)⟩, ⟨wr (gD (BI x).s (CS x).toNat - AL (Ml x) 5), wr (gD (BI x).s (CS x).toNat + AL (Lf x) 5)⟩⟩ := by simp only [moN]
 have eTo : AJ x = bif moB x then EO (AH x) (moN x) else AH x := by
  simp only [AJ, moNs, EO]
  cases moB x with
  | true => simp only [cond_true]
  | false => simp only [cond_false]
 have eSt : CP x = bif moB x then moS4 x else BH x := by simp only [CP]
 have eWi : AM x = ⟨moP x, (AH x).base, (AH x).scale, (AH x).off, (AH x).ms, (AH x).ns⟩ := by simp only [AM]
 have eP : moP x = ⟨BJ 1 (wr ((AH x).p.lo - AL (CP x) 3)), wr ((AH x).p.hi + AL (Kv x) 3)⟩ := by simp only [moP]
 have G0 : BL x 0 = ⟨moSg x, 0, []⟩ := by simp only [BL, sgK]
 have Gs : ∀ k, BL x (k + 1) = OZ (BI x).z k (BL x k) := λ k => by simp only [BL, sgK]
 have eQ : QL x = (BL x ((AH x).ms.length - 1)).q := by simp only [QL]
 have eX : MP x = wr (gD (BI x).t 0 + MX x.t (wr (wr (gD (BI x).t ((AH x).ms.length - 1) - gD (BI x).t 0) + 1))) := by simp only [MP]
 have q0 : (BH x).bs = x.cs /\ (BH x).used = 0 /\ (BH x).mix = 0 := by rw [eS0]; exact ⟨rfl, rfl, rfl⟩
 have eM : (AJ x).ms.length = (AH x).ms.length := by
  rw [eTo]
  cases moB x with
  | true => simp only [cond_true, EO]
  | false => simp only [cond_false]
 have eW : (AM x).ms.length = (AH x).ms.length := by rw [eWi]
 simp only [eM, eW]
 clear tm fe t1 te w1 we s1 eF e1 e2 e3 e4 eSw eSg eS0 l1 l2 l3 l4 n5 n6
 generalize AW ⟨moZ x, MP x⟩ = U at *
 generalize AW ⟨⟨AJ x, (BI x).z⟩, MP x⟩ = V at *
 generalize AW ⟨⟨AH x, QL x⟩, MP x⟩ = Wg at *
 generalize CJ (AJ x) = Ft at *
 generalize CJ (AM x) = Fw at *
 clear tc wc sc
 generalize moM x = M at *
 generalize AH x = C at *
 generalize BI x = T at *
 generalize CS x = f at *
 generalize moB x = B at *
 generalize moN x = N at *
 generalize AJ x = To at *
 generalize BH x = S0 at *
 generalize Ja x = S1 at *
 generalize Ml x = S2 at *
 generalize Lf x = S3 at *
 generalize moS4 x = S4 at *
 generalize CP x = St at *
 generalize Kv x = Sw at *
 generalize moSg x = Sg at *
 generalize moP x = P at *
 generalize AM x = Wi at *
 generalize BL x = G at *
 generalize QL x = Q at *
 generalize MP x = X at *
 generalize RO x = L at *
 generalize Mw x = F at *
 have b0 : ((0 : Int) != 0) = false := rfl
 simp only [b0, cond_false, Bool.not_true]
 have ws : ∀ a : Nat, a <= 60 -> IntKind.i64.wrap ((a : Int) + 1) = ((a + 1 : Nat) : Int) := λ a h => GC (by omega)
 have gl : ∀ k, k <= 40 -> (G k).q.length <= 40 /\ (G k).nx <= 40 := λ k hk => by
  have I := sg k
  refine ⟨?_, Nat.le_trans I.nx n4⟩
  rcases CZJ (G k).q 0 k I.up I.q with q | q
  ·omega
  ·rw [q]; decide
 have hz3 : T.z.length < 4611686018427387904 := by omega
 have h3 : C.ms.length < 4611686018427387904 /\ C.ns.length < 4611686018427387904 /\ T.z.length < 4611686018427387904 := ⟨by omega, by omega, hz3⟩
 have h3t : C.ms.length < 4611686018427387904 /\ To.ns.length < 4611686018427387904 /\ T.z.length < 4611686018427387904 := ⟨by omega, by omega, hz3⟩
 have h3w : C.ms.length < 4611686018427387904 /\ Wi.ns.length < 4611686018427387904 /\ T.z.length < 4611686018427387904 := ⟨by omega, by omega, hz3⟩
 have h3q : C.ms.length < 4611686018427387904 /\ C.ns.length < 4611686018427387904 /\ Q.length < 4611686018427387904 := ⟨by omega, by omega, by omega⟩
 have isE : ∀ k, (bif decide (((G k).nx : Int) < T.z.length) then gD T.z (G k).nx == (k : Int) else false) = Ir T.z k (G k) := λ _ => rfl
 have GsT : ∀ k, Ir T.z k (G k) = true -> G (k + 1) = ⟨(G k).s, (G k).nx + 1, (G k).q ++ [(k : Int)]⟩ := λ k h => by rw [Gs]; unfold OZ; rw [h]; rfl
 have GsA : ∀ k, Ir T.z k (G k) = false -> (AL (G k).s 4 == 0) = true -> G (k + 1) = ⟨AQ (G k).s 4, (G k).nx, (G k).q ++ [(k : Int)]⟩ := λ k h h2 => by rw [Gs]; unfold OZ; rw [h, h2]; rfl
 have GsB : ∀ k, Ir T.z k (G k) = false -> (AL (G k).s 4 == 0) = false -> G (k + 1) = ⟨AQ (G k).s 4, (G k).nx, (G k).q⟩ := λ k h h2 => by rw [Gs]; unfold OZ; rw [h, h2]; rfl
 have sn : ∀ (q : List Int) (k : Int) (i : Nat), i < (q ++ [k]).length -> gD (q ++ [k]) i = bif decide (i < q.length) then gD q i else k := λ q k i hi => eT _ _ (by simpa using hi)
 refine ⟨⟨rfl, hs, by decide, by decide⟩, h3, ⟨⟨h3.1, h3.2.1⟩, λ _ => n3⟩, (λ h => by cases h), λ _ => ⟨⟨⟨by omega, h0⟩, by omega, by omega⟩, ⟨⟨0, ⟨trivial, λ _ _ => trivial, rfl, rfl, by rw [q0.1], λ _ _ => by rw [q0.1], q0.2.1, q0.2.2, λ i hi => absurd hi (Nat.not_lt_zero _)⟩, Nat.zero_le _⟩, λ k hk => ⟨λ hlt => ?_, λ hge => ?_⟩⟩, ⟨λ hB => ?_, λ hB => ?_⟩, ⟨rfl, us4, rfl, us5⟩, ⟨⟨0, ?_, Nat.zero_le _⟩, λ k hk => ⟨λ hlt => ?_, λ hge => ?_⟩⟩, h3t, h3w, h3q, ⟨⟨λ _ => ⟨h3.1, h3.1⟩, λ _ => ⟨h3.1, h3.1⟩, λ _ => ⟨h3.1, h3.1⟩⟩, (λ h => by cases h), λ _ => ⟨default, trivial⟩⟩, ⟨⟨h3t.1, h3t.2.1⟩, λ _ => tn⟩, ⟨⟨h3w.1, h3w.2.1⟩, λ _ => wn⟩, ⟨λ h => ?_, λ _ => ⟨default, trivial⟩⟩, ⟨⟨⟨by decide, by omega⟩, ⟨by omega, by omega⟩, by decide, by omega⟩, default, ?_⟩, h3, h3t, h3q, ?_⟩⟩
 ·refine ⟨⟨⟨⟨k, 0⟩, ⟨rfl, rfl, rfl, rfl⟩, ⟨by show k < C.ms.length; omega, rfl⟩, Nat.zero_le _⟩, ?_⟩, ?_⟩
  ·rintro ⟨k2, j⟩ ⟨⟨q1, q2⟩, q3⟩
   dsimp only at q1 q2 q3 ⊢
   obtain rfl : k2 = k := by omega
   refine ⟨λ hj => ⟨λ _ => ⟨by omega, hj⟩, ⟨⟨k2, j + 1⟩, ⟨rfl, rfl, rfl, (ws j (by omega)).symm⟩, ⟨⟨q1, rfl⟩, by show j + 1 <= C.ns.length; omega⟩, by show C.ns.length - (j + 1) < C.ns.length - j; omega⟩⟩, λ hj => ?_⟩
   obtain rfl : j = C.ns.length := by omega
   rw [CUY]
   refine ⟨λ hh => ⟨k2, ⟨?_, rfl⟩, q1, rfl⟩, λ hh => ⟨k2, ⟨?_, rfl⟩, q1, rfl⟩⟩
   ·show (bif hasN C.ns (k2 : Int) then Gy C k2 else (k2 : Int)) = _
    rw [hh]; rfl
   ·show (bif hasN C.ns (k2 : Int) then Gy C k2 else (k2 : Int)) = _
    rw [hh]; rfl
  ·rintro a ⟨q1, q2⟩
   exact ⟨a + 1, ⟨rfl, (ws a (by omega)).symm⟩, by omega, by omega⟩
 ·obtain rfl : k = C.ms.length := by omega
  exact ⟨default, eFr.symm⟩
 ·subst hB
  have eTo : To = EO C N := eTo
  have eSt : St = S4 := eSt
  have lT : To.ns.length = C.ns.length + 1 := by rw [eTo]; show (C.ns ++ [N]).length = _; simp
  have f0 : 0 <= f := by
   cases hd : decide (f >= 0) with
   | true => exact of_decide_eq_true hd
   | false => rw [hd] at eB; cases eB
  have ff : 0 <= f /\ f < C.ms.length := fr.resolve_left (by omega)
  have aT : ∀ j, j < C.ns.length + 1 -> ((gD To.ns j).mi = bif decide (j < C.ns.length) then (gD C.ns j).mi else f) /\ ((gD To.ns j).t.lo = bif decide (j < C.ns.length) then (gD C.ns j).t.lo else BJ 0 (IntKind.i64.wrap (gD T.t f.toNat - AL S0 20))) /\ ((gD To.ns j).t.hi = bif decide (j < C.ns.length) then (gD C.ns j).t.hi else IntKind.i64.wrap (gD T.t f.toNat + AL S1 20)) /\ ((gD To.ns j).s.lo = bif decide (j < C.ns.length) then (gD C.ns j).s.lo else IntKind.i64.wrap (gD T.s f.toNat - AL S2 5)) /\ (gD To.ns j).s.hi = bif decide (j < C.ns.length) then (gD C.ns j).s.hi else IntKind.i64.wrap (gD T.s f.toNat + AL S3 5) := λ j hj => by
   have e : gD To.ns j = bif decide (j < C.ns.length) then gD C.ns j else N := by rw [eTo]; exact eT _ _ hj
   rw [e, eN]
   cases decide (j < C.ns.length) <;> exact ⟨rfl, rfl, rfl, rfl, rfl⟩
  have aT0 : ∀ j, j < 1 -> (gD To.ns j).mi = f /\ (gD To.ns j).t.lo = BJ 0 (IntKind.i64.wrap (gD T.t f.toNat - AL S0 20)) /\ (gD To.ns j).t.hi = IntKind.i64.wrap (gD T.t f.toNat + AL S1 20) /\ (gD To.ns j).s.lo = IntKind.i64.wrap (gD T.s f.toNat - AL S2 5) /\ (gD To.ns j).s.hi = IntKind.i64.wrap (gD T.s f.toNat + AL S3 5) := λ j hj => by
   obtain ⟨p1, p2, p3, p4, p5⟩ := aT j (by omega)
   rw [decide_eq_false (show ¬ j < C.ns.length by omega)] at p1 p2 p3 p4 p5
   exact ⟨p1, p2, p3, p4, p5⟩
  exact ⟨⟨ff, rfl, us0, ff, rfl, us1, ff, rfl, us2, ff, rfl, us3, (λ h => absurd h (Nat.lt_irrefl 0)), Nat.one_pos, Nat.one_pos, by decide, by decide⟩, ⟨default, by rw [eSt], λ _ _ => by rw [eSt], by rw [eSt], by rw [eSt], by rw [eTo]; rfl, by rw [eTo]; rfl, by rw [eTo]; rfl, by rw [eTo]; rfl, by rw [eTo]; rfl, trivial, λ _ _ => by rw [eTo]; exact ⟨rfl, rfl⟩, by rw [lT, h0], by decide, λ j hj => aT0 j (by omega)⟩⟩
 ·subst hB
  have eTo : To = C := eTo
  have eSt : St = S0 := eSt
  exact ⟨default, by rw [eSt], λ _ _ => by rw [eSt], by rw [eSt], by rw [eSt], by rw [eTo], by rw [eTo], by rw [eTo], by rw [eTo], by rw [eTo], trivial, λ _ _ => by rw [eTo]; exact ⟨rfl, rfl⟩, by rw [eTo]; exact h0⟩
 ·refine ⟨by rw [G0]; rfl, by rw [G0]; rfl, rfl, by rw [G0], λ _ _ => by rw [G0], by rw [G0], by rw [G0], by rw [eWi, eP]; rfl, by rw [eWi, eP]; rfl, by rw [eWi], by rw [eWi], by rw [eWi], trivial, λ _ _ => by rw [eWi]; exact ⟨rfl, rfl⟩, by rw [eWi], λ _ _ => by rw [eWi]; exact ⟨rfl, rfl, rfl, rfl, rfl⟩, by rw [G0]; rfl, λ i _ => by rw [G0]; rfl⟩
 ·rw [ws k (by omega)] at hlt
  have hk1 : k < C.ms.length - 1 := by omega
  rw [isE k, ws _ (Nat.le_trans (gl k (by omega)).2 (by decide))]
  refine ⟨⟨λ h => ⟨by omega, h⟩, ⟨λ h => ⟨k, ⟨rfl, rfl, rfl, h.symm, rfl, rfl, λ _ _ => rfl, rfl, rfl, rfl, λ _ _ => rfl⟩, ⟨hk1, rfl⟩, h⟩, λ h => ⟨k, ⟨rfl, rfl, rfl, h.symm, rfl, λ _ _ => rfl, rfl, rfl, rfl, λ _ _ => rfl⟩, ⟨hk1, rfl⟩, h⟩⟩, ?_, ?_⟩, ?_⟩
  ·rintro a ⟨⟨q1, q2⟩, q3⟩
   obtain rfl : a = k := by omega
   have gg := gl a (by omega)
   have e := GsT a q3
   exact ⟨(λ h => by cases h), ⟨Nat.one_pos, (λ h => by cases h), by omega, by omega⟩, a, ⟨by rw [e]; simp, by rw [e]; rfl, rfl, by rw [e], λ _ _ => by rw [e], by rw [e], by rw [e], by rw [e]; simp, λ i hi => by rw [e] at hi ⊢; exact sn _ _ _ hi⟩, q1, rfl⟩
  ·rintro a ⟨⟨q1, q2⟩, q3⟩
   obtain rfl : a = k := by omega
   have gg := gl a (by omega)
   refine ⟨⟨rfl, ug a (by omega)⟩, λ h => ?_, λ h => ?_⟩
   ·have e := GsA a q3 h
    exact ⟨⟨Nat.one_pos, (λ h => by cases h), by omega, by omega⟩, a, ⟨by rw [e]; simp, by rw [e], rfl, by rw [e], λ _ _ => by rw [e], by rw [e], by rw [e], by rw [e]; simp, λ i hi => by rw [e] at hi ⊢; exact sn _ _ _ hi⟩, q1, rfl⟩
   ·have e := GsB a q3 h
    exact ⟨a, ⟨by rw [e], by rw [e], rfl, by rw [e], λ _ _ => by rw [e], by rw [e], by rw [e], by rw [e], λ _ _ => by rw [e]⟩, q1, rfl⟩
  ·rintro a ⟨q1, q2⟩
   exact ⟨a + 1, ⟨rfl, rfl, (ws a (by omega)).symm, rfl, λ _ _ => rfl, rfl, rfl, rfl, λ _ _ => rfl⟩, by omega, by omega⟩
 ·rw [ws k (by omega)] at hge
  obtain rfl : k = C.ms.length - 1 := by omega
  exact ⟨default, by rw [eQ], Nat.le_refl _, λ _ _ => by rw [eQ]⟩
 ·have a1 : decide ((Ft.q.length : Int) < F.length) = false := decide_eq_false (by omega)
  have a2 : decide ((Fw.q.length : Int) > F.length) = false := decide_eq_false (by omega)
  rw [a1, a2] at h; cases h
 ·rw [eX]; rfl
 ·have a1 : decide (U.1.hi >= V.1.hi) = true := decide_eq_true sl2
  have a2 : decide (Wg.1.hi >= U.1.hi) = true := decide_eq_true sl4
  rw [decide_eq_true sl1, decide_eq_true sl3, a1, a2]; rfl
theorem DQQ (x : MoI) (hb : ∀ i, i < x.bs.length -> 0 <= gD x.bs i /\ gD x.bs i <= 255) (hc : ∀ i, i < x.cs.length -> 0 <= gD x.cs i /\ gD x.cs i <= 255) : FnT Try.prog CVV (xMo x) (AF []) (.bool true) [] := by
 have hf := DCB x hb hc
 rcases Nat.eq_zero_or_pos (AH x).ns.length with h0 | h0
 ·exact TV (A := A_Mo false x) (ren := []) (fz := []) COA (by kernel_rfl) (AD DAG (AD CPR (AD BNJ (AD BQK (AD (CYW DOJ DEP) (AD BHG (AD DDI (AD CUI (AD BLR (AD CNC AK)))))))))) (DQF x hf h0)
 ·exact TV (A := A_Mo true x) (ren := []) (fz := []) COA (by kernel_rfl) (AD DAG (AD CPR (AD BNJ (AD BQK (AD (CYW DNO DEP) (AD BHG (AD DDI (AD CUI (AD BLR (AD CNC AK)))))))))) (DRV x hf h0)
end Go.Bal
