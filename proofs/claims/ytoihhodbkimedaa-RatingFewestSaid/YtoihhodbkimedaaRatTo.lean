/- Package rating: the fewest parts; the knots are a row of one's own. -/
import Derived.Test.YtoihhodbkimedaaRatPw
import Derived.Test.YtoihhodbkimedaaRT14
set_option linter.unusedVariables false
set_option linter.unusedSimpArgs false
namespace Go.Bal
open Go Go.Sym Go.Proofs
def C_fewO : Ctr := { C_few with val := λ (g : List Gau) => .tup [.d (eRtg (EK g).r), .own 0 1 0 (EK g).k.length, .int (EK g).e], keep := λ (g : List Gau) => [(0, .live (X4 (EK g).k))], pre := λ (g : List Gau) => [g.length < 20 /\ (EK g).k ≠ []] }
def BUE (g : List Gau) : Prop := CH Try.prog (BHD g) sC (AI sC) (C_few.xs g) (AD []) (C_fewO.val g) (C_fewO.keep g) [(0, 303)] [301, 29064]
theorem BVZ (g : List Gau) : (BUE g) = (BC (YN g g (Av g)) (Gt (AU g)) WQ (PF (Sz (AY (JS g) BA (AS g) (CB g) AC (AOS BM AC)) g) (NR (λ i=>SC (ZP g) 0 (FQ g) Np (SA (λ j=>CJ (MV (JS g) (BJ j 0) g (fU g (YV BM (HC j) (λ k=>AP k j (EA k 0))))) (Om (ZP g) j (IA j g)) (ON g j) (NS g))) WQ)) (AG (λ i=>SC (Om (ZP g) i (IA i g)) i (FQ g) (VC i 1 RZ 8) (SA (λ j=>CJ (MV (JS g) (BJ j i) g (fU g (YV BM (IM j i) (λ k=>AP k j (ED k (JG k i (BK k) (BK i))))))) (Om (ZP g) j (IA j g)) (ON g j) (ON g i))) (Sz (Jz g (fU g (YV BM (BB (YE g) i) (λ j=>MF j (YE g) (BK j))))) g))) (NR (λ i=>QF (ZP g) (PF AC (CO (TS g) (YE g)) (KJ (CO (TS g) (YE g)) (CE (TS g) (YE g)) (BR g) (BW g) (TT g) (UE g) (JC (TS g) 20) (RD (TS g)) (λ j=>ZU j (TS g) (TS g) j (AU g))) (Sz (AAP (AS g) (CB g) AC BM AC (ADW g (YE g)) (EL (Vr (YE g)) (TS g)) (AG (λ j=>SJ j (RE g) j (stM (Sg (AU g)) (TS g)) (CF j)))) g)) (YO (ZP g) (AH (Oi (CA 2000)) (So (λ j=>AJ (BI AC BM (CN (Es j)) (CN (WD j)) (AS g) (CB g) AC (Wi g (Ab (Tf g) (Ac j Xh) (Ar j Xh) (Bq j Xh) (Am j Xh)))) (PB g j j g j j j j (λ k=>NX g j k)) (lF j) (eA j) (fC j))) (qH (λ j=>SC (AH (PB g j j g j j j j (λ k=>NX g j k)) (lF j) (eA j) (fC j)) (WD j) (Ai g) (sP (λ k=>AJ (Uv AC BM (EA (JR k) (Es j)) (XE (JJ k) j) (XE (KU k) j) (AS g) (CB g) (Wi g (Ab (Tf g) (Ze k (GU j)) (Zz k (GU j)) (Wd k (GU j)) (Xb k (GU j))))) (QA (Dt g (Gh k k) (Hg k g) (LF k) (JR k) (JK k) (EX k) (λ l=>Hb g k l)) (He g k g j) (Ho k g) (JJ k) (KU k) (Gw k g) (Fw g g k (Fy g g k g k k))) (oZ k) (lS k) (nC k))) (ALS (λ k=>YR (AH (QA (Dt g (Gh k k) (Hg k g) (LF k) (JR k) (JK k) (EX k) (λ l=>Hb g k l)) (He g k g j) (Ho k g) (JJ k) (KU k) (Gw k g) (Fw g g k (Fy g g k g k k))) (oZ k) (lS k) (nC k)) (AH (Wl (Da k g) (ZK k) g) (Wa k g (rV g (KU k) g)) (Wl (Da k g) (Ha k) g) (Wa k g (Ws g k g))) (HG (Da k g) (TU (qS g g (KU k)) (Zk g g k))) (sP (λ l=>FU (Uv AC BM (bB (JR l) k) (Wf (JJ l) k) (JE (KU l) (ZK k)) (AS g) (CB g) (Wi g (Ab (Tf g) (Ze l (GV k)) (Zz l (GV k)) (Wd l (GV k)) (Xb l (GV k))))) (QA (Dt g (Gh l l) (Hg l g) (LF l) (JR l) (JK l) (EX l) (λ m=>Hb g l m)) (He g l g j) (Ho l g) (JJ l) (KU l) (Gw l g) (Fw g g l (Fy g g l g l l))) (oZ l) (lS l) (nC l) (Uh g l) (Uh g k))) (BC (JV (FI (JJ k)) (aS k) (Rx g) (RE g) (BR g) (BW g) (AQ (aA g g) (Xr g g) (TT g) (UE g) (IR (CA (Ha k)) (tJ (Ha k) k) (Wk k g) (Yj g) (AR (λ l=>aX (Yz l g) l g))) (AW (QT g k) (aM g k k)) (BE (QT g k) (aM g k k)) (MR (QT g k)) (MD (QT g k)))) (Kz (QT g k)) WQ (BC (JV (FI (JR k)) (aS k) (Rx g) (RE g) (BR g) (BW g) (AQ (aA g g) (Xr g g) (TT g) (UE g) (IR (Yg k) (Xt k k) (Wk k g) (Yj g) (AR (λ l=>aX (Yz l g) l g))) (AW (UU g k) (Yf g k k)) (BE (UU g k) (Yf g k k)) (MR (UU g k)) (MD (UU g k)))) (iA (qN g k)) (So (λ l=>FU (BI AC BM (bB (Es l) k) (ED (WD l) (ZK k)) (AS g) (CB g) AC (Wi g (Ab (Tf g) (Ac l (WM g k)) (Ar l (WM g k)) (Bq l (WM g k)) (Am l (WM g k))))) (PB g l l g l l l l (λ m=>NX g l m)) (lF l) (eA l) (fC l) (SZ g l) (SZ g j))) (AE (AH (GA (JJ k) (Ai g)) (Ws g k g) Np (Gn 4 Jn 32)) (PF (AE (Yg k) (Xt k k) (DW (ZK k) (Ai g))) (BR g) (AQ (BW g) (BB (TM k g) (FM (KU k) (JR k))) (AG (λ l=>SJ l (TM k g) l (RE g) (KT (JR k) l))) (And (dS (AU g) (CX (TM k g)) 1073741824) (Aq g)) (SE Gi) RZ Dk (QW 9223372036854775807) (NY 24)) (So (λ l=>AH (AJ AC (HC (QG l)) (Wf (WD l) k) (AS g) (Aa g BM g g AC (Ak (PL l)) (HC (II l)) (Ac l (GV k)) (DD (Ar l (GV k)) (Bq l (GV k)) (Am l (GV k)) (Ak (PL l)) (AG (λ m=>MF m (PL l) (Zk g g k))) (HC (II l)) (λ m=>IZ m (II l) (VQ l m) (GV k)) (HC (QG l)) (λ m=>LD m (QG l) (ZO l m) (Hk (Iq (AU g) (TM k g))))))) (PB g l l g l l l l (λ m=>NX g l m)) (Ya l l) (CM (SZ g l) (SZ g j))))) (qH (λ l=>CG (Pp (PB g l l g l l l l (λ m=>NX g l m)) (Ya l l) (SZ g l) g j) (So (λ m=>Pp (AY AC (Wg m l) (XE (Es m) l) (XE (WD m) l) (AS g) (Aa g BM g g AC (Gy m l) (Xz m l) (Ac m (GU l)) (DD (Ar m (GU l)) (Bq m (GU l)) (Am m (GU l)) (Gy m l) (CE (PL m) (PL l)) (Xz m l) (λ n=>IZ n (II m) (VQ m n) (VQ l n)) (Wg m l) (λ n=>LD n (QG m) (ZO m n) (ZO l n))))) (PB g m m g m m m m (λ n=>NX g m n)) (SZ g m) g j))))))))) (And (Gn 4 Jn 32) WQ))) (qH (λ j=>SC (PB g j j g j j j j (λ k=>NX g j k)) (WD j) (Ai g) (sP (λ k=>DS (DS AC (sO (EX k) j) (EA (JR k) (Es j)) (XE (JJ k) j) (XE (KU k) j) (AS g) (Aa g BM g g AC (bE k j) (rP (JK k) j) (Ze k (GU j)) (DD (Zz k (GU j)) (Wd k (GU j)) (Xb k (GU j)) (bE k j) (CE (RA k) (PL j)) (rP (JK k) j) (λ l=>IZ l (JK k) (WT k l) (VQ j l)) (sO (EX k) j) (λ l=>LD l (EX k) (Fs k l) (ZO j l))))) (Dt g (Gh k k) (Hg k g) (LF k) (JR k) (JK k) (EX k) (λ l=>Hb g k l)) (He g k g j) (Ho k g) (DB (JJ k) (KU k)) (Gw k g) (Fw g g k (Fy g g k g k k)))) (ALS (λ k=>YR (QA (Dt g (Gh k k) (Hg k g) (LF k) (JR k) (JK k) (EX k) (λ l=>Hb g k l)) (He g k g j) (Ho k g) (JJ k) (KU k) (Gw k g) (Fw g g k (Fy g g k g k k))) (AH (Wl (Da k g) (ZK k) g) (Wa k g (rV g (KU k) g)) (Wl (Da k g) (Ha k) g) (Wa k g (Ws g k g))) (HG (Da k g) (TU (qS g g (KU k)) (Zk g g k))) (sP (λ l=>CJ (DS AC (aR (EX l) k) (bB (JR l) k) (Wf (JJ l) k) (JE (KU l) (ZK k)) (AS g) (Aa g BM g g AC (bE l (LF k)) (Xn (JK l) k) (Ze l (GV k)) (DD (Zz l (GV k)) (Wd l (GV k)) (Xb l (GV k)) (bE l (LF k)) (CE (RA l) (RA k)) (Xn (JK l) k) (λ m=>IZ m (JK l) (WT l m) (WT k m)) (aR (EX l) k) (λ m=>LD m (EX l) (Fs l m) (Fs k m))))) (QA (Dt g (Gh l l) (Hg l g) (LF l) (JR l) (JK l) (EX l) (λ m=>Hb g l m)) (He g l g j) (Ho l g) (JJ l) (KU l) (Gw l g) (Fw g g l (Fy g g l g l l))) (Uh g l) (Uh g k))) (BC (JV (FI (JJ k)) (aS k) (Rx g) (RE g) (BR g) (BW g) (AQ (aA g g) (Xr g g) (TT g) (UE g) (IR (CA (Ha k)) (tJ (Ha k) k) (Wk k g) (Yj g) (AR (λ l=>aX (Yz l g) l g))) (AW (QT g k) (aM g k k)) (BE (QT g k) (aM g k k)) (MR (QT g k)) (MD (QT g k)))) (Kz (QT g k)) WQ (BC (JV (FI (JR k)) (aS k) (Rx g) (RE g) (BR g) (BW g) (AQ (aA g g) (Xr g g) (TT g) (UE g) (IR (Yg k) (Xt k k) (Wk k g) (Yj g) (AR (λ l=>aX (Yz l g) l g))) (AW (UU g k) (Yf g k k)) (BE (UU g k) (Yf g k k)) (MR (UU g k)) (MD (UU g k)))) (iA (qN g k)) (So (λ l=>Pp (AY AC (aR (QG l) k) (bB (Es l) k) (ED (WD l) (ZK k)) (AS g) (Aa g BM g g AC (Gy l (LF k)) (Xn (II l) k) (Ac l (WM g k)) (DD (Ar l (WM g k)) (Bq l (WM g k)) (Am l (WM g k)) (Gy l (LF k)) (CE (PL l) (RA k)) (Xn (II l) k) (λ m=>IZ m (II l) (VQ l m) (WT k m)) (aR (QG l) k) (λ m=>LD m (QG l) (ZO l m) (Fs k m))))) (PB g l l g l l l l (λ m=>NX g l m)) (SZ g l) g j)) (AE (AH (GA (JJ k) (Ai g)) (Ws g k g) (YY (And (BO (pJ (LF k))) (CZ 0 (RA k) Dn)) RZ (Cu (RA k)) 8) (VC (JK k) 4 Jn 32)) (PF (AE (Yg k) (Xt k k) (DW (ZK k) (Ai g))) (BR g) (AQ (BW g) (BB (TM k g) (FM (KU k) (JR k))) (AG (λ l=>SJ l (TM k g) l (RE g) (KT (JR k) l))) (And (dS (AU g) (CX (TM k g)) 1073741824) (Aq g)) (Yl (EX k) 1) RZ Dl (DB (KF (EX k)) 9223372036854775807) (NY (Ej (KF (EX k)) 24))) (So (λ l=>AH (AJ AC (IM (QG l) (EX k)) (Wf (WD l) k) (AS g) (Aa g BM g g AC (Gm (PL l) (RA k)) (IM (II l) (JK k)) (Ac l (GV k)) (DD (Ar l (GV k)) (Bq l (GV k)) (Am l (GV k)) (Gm (PL l) (RA k)) (AG (λ m=>MF m (PL l) (RH m (pJ (LF k)) (RA k) m (Zk g g k)))) (IM (II l) (JK k)) (λ m=>NT m (II l) (TW (VQ l m) (JG m (JK k) (KZ (WT k m)) (KZ (GV k)))) (UF (VQ l m) (JG m (JK k) (KR (WT k m)) (KR (GV k)))) (An (VQ l m) (JG m (JK k) (LU (WT k m)) (LU (GV k)))) (QY (VQ l m) (JG m (JK k) (MC (WT k m)) (MC (GV k))))) (IM (QG l) (EX k)) (λ m=>VA m (QG l) (BB (ZO l m) (Um (Ll m (EX k)) (CX (Fs k m)) (CX (Hk (Iq (AU g) (TM k g)))))) (λ n=>MF n (ZO l m) (RH m (EX k) (Fs k m) n (EM (Hk (Iq (AU g) (TM k g))) n))))))) (PB g l l g l l l l (λ m=>NX g l m)) (Ya l l) (CM (SZ g l) (SZ g j))))) (qH (λ l=>CG (Pp (PB g l l g l l l l (λ m=>NX g l m)) (Ya l l) (SZ g l) g j) (So (λ m=>Pp (AY AC (Wg m l) (XE (Es m) l) (XE (WD m) l) (AS g) (Aa g BM g g AC (Gy m l) (Xz m l) (Ac m (GU l)) (DD (Ar m (GU l)) (Bq m (GU l)) (Am m (GU l)) (Gy m l) (CE (PL m) (PL l)) (Xz m l) (λ n=>IZ n (II m) (VQ m n) (VQ l n)) (Wg m l) (λ n=>LD n (QG m) (ZO m n) (ZO l n))))) (PB g m m g m m m m (λ n=>NX g m n)) (SZ g m) g j))))))))) (BI (VC (II j) 4 Jn 32) (S5 (Be g) j) (Ts (pJ j)) (AG (λ k=>SJ k (Be g) k (PL j) (CF k))) (IM (Bi g) (II j)) (Ts (KF (II j))) (AG (λ k=>NT k (Bi g) (TW (Dr g k) (JG (CF k) (II j) (KZ (Xc j k)) (KZ (GU j)))) (UF (Dr g k) (JG (CF k) (II j) (KR (Xc j k)) (KR (GU j)))) (An (Dr g k) (JG (CF k) (II j) (LU (Xc j k)) (LU (GU j)))) (QY (Dr g k) (JG (CF k) (II j) (MC (Xc j k)) (MC (GU j)))))) (Ep AC (VM (WZ g) (QG j)) (CD (YB g)) (AG (λ k=>UV k (WZ g) k (ZO j k))))))))))))) := by kernel_rfl
def C_KnotsO : Ctr := { C_fewO with val := λ (g : List Gau) => .tup [.own 0 1 0 (EK g).k.length, .int (EK g).e] }
def AZO (g : List Gau) : Prop := CH Try.prog (ann 15 [(XN, C_fewO.spec Ch)]) lD (AI lD) (C_KnotsO.xs g) (AD []) (C_KnotsO.val g) (C_KnotsO.keep g) [(0, 2016)] []
abbrev BAF:=@Ne (List (List Int))
attribute [go_sem] BAF
theorem BKV (g : List Gau) : (AZO g) = (IR (BR g) (BW g) (Dj (AU g)) (BAF (Uj g) xM) (Ep AC (Ue (WZ g) (Uj g)) (Ku g (YB (AU g))) (AG (λ i=>UV i (WZ g) i (KX (Uj g) i))))) := by kernel_rfl
def C_KnotsN : Ctr := { C_few with val := λ (g : List Gau) => .tup [kE, .int (EK g).e], pre := λ (g : List Gau) => [g.length < 20 /\ (EK g).k = []] }
def BBR (g : List Gau) : Prop := CH Try.prog (ann 15 [(XN, C_few.spec Ch)]) lD (AI lD) (C_KnotsN.xs g) (AD []) (C_KnotsN.val g) [] [] []
theorem BLL (g : List Gau) : (BBR g) = (AH (YN g g (Dj (AU g))) (Hw (NC (Uj g))) (AG (λ i=>dK i (CO (Ao i) (KX (Uj g) i)) (λ j=>HP j (Ao i) (KX (Uj g) i)))) (Ku g (YB (AU g)))) := by kernel_rfl
theorem CDK (g : List Gau) (hg : g.length < 20) (hne : (EK g).k ≠ []) : BUE g := by
 rw [BVZ]<;> delta KY hd5 Dc GH HK FK KZ KR LU MC KN Tu PN FA AO AT CX AG CG CM EM BK DB DW DT QP PD RO FM PQ YC WQ TU hd84 DM GP SA EF XV XJ Io GF KT WH NR pM Ie Ej Ll iA AR GE MO Lz Iq Sg AAR Wb NC RE So Es WD GU PL AUJ xM qH sP LF KU ALS KX Um KK AE KC FQ AJ AP DR AU AK BO JQ Ia bR Ep rB jM AOS QS DK AX AQ AH BH CY BN CL CZ CA KF DP FT GI AC BB ED IG QK HI AAP Uv CQ EP DF FP MX CF JJ Rx FC NT II DG EN AW JR ZK Cu AY ZJ Ma Et QG LW CJ DE DN AS EO pJ EA VQ DS DY GN CD ON SZ MY VA LI GV Kc AYY JM EU FE DV HP Ir BM FG CE MK CO AZL KJ IA JN UQ QF ZP JG JE HG tE IF IE MN cH Fc ZO JK Cv BBY FB HD LL BE CB An Iw IK EX BA BC LO BI MS BW AFB QY DD UF JC EZ NY LA Ai WT Df RW TW SI RU SF BJ SK BR MU Ki IM JS RA Bv Wp QW Af DH HC YE Gr TN FI EL NS WZ lW UU LD Gu MR CN KO GA UX UY ZT Tf SE NX RD FW S5 Dl MD YB FU Yu fU Uh Dk qN Dr VM Md Eh Dt QT MF Da RZ TS aD UC YP IR Ti TM Mw XE WM AOD Be Kz YY RH MV PF Gi Ac aT Bq YO QA cR sV UE TT IZ PB Zh Am Bi Ha Xf Gy Fs Gw Ar Ho tJ sO Gh rP Oi qS Hb dS eA fC UB Ub SJ Yl UV JV Hg Hw rV YV Jn Aq SC ADW K2 Ak Ab He Gm Yj Yg aS VC Fw Av Dn Fy ZU Om aA Xz Wg Xt Wi bE Sz Ze Zj Gn Xr Wd Xc bB aR Gt Wk Xb Wf Xn Np Aa YR Pp Xh Zz Yz Ws Yf Wl Wa aX Ya YN Zk Jz nC oZ Ts aM lS lF Vr; simp only [CC, eq_self, implies_true, forall_const, Int.ofNat_lt]
 have zz : ∀ n, EK g = ⟨⟨[], []⟩, [], n⟩ -> False := λ n h => hne (by rw [h])
 refine ⟨by omega, λ he => ?_, λ he => ?_⟩
 ·refine zz (AZ g) ?_
  unfold EK; rw [show (AZ g == 0) = false by simpa using he]; rfl
 ·have hc : AZ g = 0 := by simpa using he
  have hck := MP hc
  refine ⟨⟨⟨default, hc⟩, λ _ => ⟨λ h0 => ⟨⟨by omega, by omega, by omega, by omega, by omega⟩, 1, ⟨(EQ (a := 0) (by omega)).symm, rfl, rfl, λ i hi => by rw [show i = 0 by omega]⟩, ⟨hc, by omega, by omega⟩, by omega⟩, λ h0 => by omega⟩, λ k ⟨_, k1, k2⟩ => ⟨λ hlt => ⟨⟨by omega, λ h => (by cases h), by omega, by omega⟩, k + 1, ⟨(EQ (by omega)).symm, rfl, rfl, λ i hi => ?_⟩, ⟨hc, by omega, by omega⟩, by omega⟩, λ hge => ⟨default, ⟨?_, ?_, λ i hi => ?_⟩, hc⟩⟩⟩, λ _ => ⟨⟨⟨by rw [OE]; exact hg, by rw [OE]; omega, λ i hi => ?_⟩, default, ⟨?_, Nat.le_refl _, λ _ _ => rfl⟩, hc⟩, λ _ => ⟨⟨by omega, by omega⟩, ⟨ini0, ⟨rfl, rfl, rfl, rfl, rfl, rfl⟩, ⟨hc, Nat.le_refl _, Nat.zero_le _, Nat.le_refl _, rfl, rfl, λ m hm => ?_⟩, rfl, rfl, rfl⟩, λ s hs => ?_, λ s hs => ?_⟩⟩⟩
  ·by_cases h : i < k
   ·rw [decide_eq_true h]; rfl
   ·rw [decide_eq_false h, show i = k by omega]; rfl
  ·rw [OE]; omega
  ·rw [OE]; omega
  ·rw [OE] at hi; exact AHB hi
  ·rw [OE] at hi; rw [AHB hi]; omega
  ·rw [AN, OE]
  ·unfold EK; rw [show (AZ g == 0) = true by rw [hc]; rfl]
   exact iZ _ _ _ (Nat.le_refl _) (Nat.zero_le _) (by unfold gU ini0; rw [AN]; simp) hm
  ·obtain ⟨hI, hb, hl, hk⟩ : invF g s /\ s.b = [] /\ s.l = [] /\ s.k = [] := hs
   refine ⟨λ ht => ?_, λ ht => ?_⟩
   ·have ht : s.to < g.length := by rw [AN] at ht; exact ht
    refine ⟨⟨⟨s, s.to⟩, ⟨rfl, rfl, rfl, rfl, rfl, rfl, rfl⟩, ⟨hI, rfl, ht, Nat.le_refl _, Nat.le_of_lt ht, ?_⟩, hb, hl, hk⟩, λ x hx => ?_⟩
    ·unfold In; rw [AN]
    ·obtain ⟨⟨xI, x1, x2, x3, x4, x5⟩, xb, xl, xk⟩ : AUD g (gU (AM g) s) x /\ x.s.b = [] /\ x.s.l = [] /\ x.s.k = [] := hx
     refine ⟨⟨λ h => ⟨by omega, by omega⟩, λ h => YD (by rw [AN] at h; exact h), λ h => ⟨by omega, by rw [AN]; omega⟩, λ _ => YD x2⟩, λ hq => ?_, λ hq => ?_⟩
     ·rw [AN] at hq
      obtain ⟨q1, q2⟩ := BHH hq
      exact ⟨⟨x.s, x.n + 1⟩, ⟨rfl, rfl, (EQ (by omega)).symm, rfl, rfl, rfl, rfl⟩, ⟨⟨xI, x1, x2, by show x.s.to <= x.n + 1; omega, q1, x5.trans (AKL q1 q2)⟩, xb, xl, xk⟩, by show g.length - (x.n + 1) < _; omega⟩
     ·rw [AN] at hq
      have hn : In g (AM g) x.s.to = x.n := x5.trans (AKT x4 hq)
      have e1 : pkM ⟨g, AM g, x.s.to, x.n⟩ = sS g (AM g) x.s.to (In g (AM g) x.s.to) := by rw [hn]; rfl
      have e2 : pkM ⟨g, AM g, x.s.fr, x.n⟩ = sS g (AM g) x.s.fr (In g (AM g) x.s.to) := by rw [hn]; rfl
      have hfr : x.s.fr <= x.s.to := xI.2.1
      have hbl : x.s.b.length <= x.s.fr := xI.2.2.2.1
      have hll : x.s.l.length = x.s.b.length := xI.2.2.2.2.1
      have hkl : x.s.k.length = x.s.b.length := xI.2.2.2.2.2.1
      refine ⟨⟨⟨⟨by omega, by omega, by rw [AN]; omega, by rw [AN]; omega⟩, λ _ h => Rq h⟩, AJM hc _ _⟩, λ hb1 => zz _ (BIA xI x2 (by rw [<- e1]; exact hb1)), λ hb1 => ⟨⟨⟨⟨by omega, by omega, by rw [AN]; omega, by rw [AN]; omega⟩, λ _ h => Rq h⟩, AJM hc _ _⟩, λ hb2 => ?_, λ hb2 => ?_⟩⟩
      ·obtain ⟨f1, f2⟩ := F_go xI x2 (by rw [<- e1]; exact hb1) (by rw [<- e2]; exact hb2)
       exact ⟨goF g (AM g) x.s, ⟨rfl, by show ((In g (AM g) x.s.to : Nat) : Int) = x.n; rw [hn], by rw [e2]; rfl, by rw [e2]; rfl, by rw [e2]; rfl, by rw [e2]; rfl⟩, ⟨f1, xb, xl, xk⟩, by rw [<- x1]; exact f2⟩
      ·obtain ⟨f1, f2⟩ := BGN xI x2 (by rw [<- e1]; exact hb1) (by rw [<- e2]; exact hb2)
       have eB : cX g (AM g) x.s = ⟨x.s.to, x.s.to, x.s.ln, [MI g (gD (AM g) x.s.to)], [x.s.ln], [Hk ⟨g, ((AM g).take x.n).drop x.s.fr⟩]⟩ := by unfold cX; rw [xb, xl, xk, hn]; rfl
       rw [eB] at f1 f2
       rw [AKJ (by rw [AN]; exact x4)]
       refine ⟨⟨⟨by omega, by rw [AN]; omega⟩, YD x2, ⟨by omega, by omega, by omega, by omega, by omega⟩, by omega, by omega, by omega, by omega, by omega⟩, ⟨⟨⟨by omega, by omega, by rw [AN]; omega⟩, λ i hi => ?_, ⟨⟨by omega, by omega⟩, hck.2⟩, by omega, by omega, by omega, by omega, by omega⟩, ⟨x.s.to, x.s.to, x.s.ln, [MI g (gD (AM g) x.s.to)], [x.s.ln], [Hk ⟨g, ((AM g).take x.n).drop x.s.fr⟩]⟩, ⟨rfl, rfl, rfl, rfl, rfl, rfl, rfl, rfl, rfl, λ i hi => (by rw [show i = 0 by have h1 : i < 1 := hi; omega]; rfl), rfl, oneL _, rfl, λ i hi => (by rw [show i = 0 by have h1 : i < 1 := hi; omega]; exact ⟨rfl, λ _ _ => rfl⟩)⟩, f1, rfl, by rw [<- x1]; exact f2⟩, λ y ⟨y1, y2, y3⟩ => ⟨y, ⟨rfl, by rw [y2], rfl, rfl, rfl, rfl, rfl, rfl, rfl, rfl, λ _ _ => rfl, rfl, λ _ _ => ⟨rfl, rfl, rfl, rfl⟩, rfl, λ _ _ => ⟨rfl, λ _ _ => rfl⟩⟩, y1, y3⟩⟩
       rw [Fh]; simp [gD, List.getD_eq_getElem?_getD, List.getElem?_take, show x.s.fr + i < x.n by omega]
   ·rw [AN] at ht
    exact (hne (by rw [BGU hI ht, hk])).elim
  ·have hI : invF g s := hs
   have hbl : s.b.length <= s.fr := hI.2.2.2.1
   have hll : s.l.length = s.b.length := hI.2.2.2.2.1
   have hkl : s.k.length = s.b.length := hI.2.2.2.2.2.1
   have hfr : s.fr <= s.to := hI.2.1
   have hto : s.to <= g.length := hI.2.2.1
   refine ⟨λ ht => ?_, λ ht => ?_⟩
   ·have ht : s.to < g.length := by rw [AN] at ht; exact ht
    refine ⟨⟨⟨s, s.to⟩, ⟨rfl, rfl, rfl, rfl, rfl, rfl, rfl, rfl, rfl, rfl, rfl, λ _ _ => rfl, rfl, λ _ _ => ⟨rfl, rfl, rfl, rfl⟩, rfl, λ _ _ => ⟨rfl, λ _ _ => rfl⟩⟩, hI, rfl, ht, Nat.le_refl _, Nat.le_of_lt ht, ?_⟩, λ x hx => ?_⟩
    ·unfold In; rw [AN]
    ·obtain ⟨xI, x1, x2, x3, x4, x5⟩ : AUD g (gU (AM g) s) x := hx
     refine ⟨⟨λ h => ⟨by omega, by omega⟩, λ h => YD (by rw [AN] at h; exact h), λ h => ⟨by omega, by rw [AN]; omega⟩, λ _ => YD x2⟩, λ hq => ?_, λ hq => ?_⟩
     ·rw [AN] at hq
      obtain ⟨q1, q2⟩ := BHH hq
      exact ⟨⟨x.s, x.n + 1⟩, ⟨rfl, rfl, rfl, (EQ (by omega)).symm, rfl, rfl, rfl, rfl, rfl, rfl, rfl, λ _ _ => rfl, rfl, λ _ _ => ⟨rfl, rfl, rfl, rfl⟩, rfl, λ _ _ => ⟨rfl, λ _ _ => rfl⟩⟩, ⟨xI, x1, x2, by show x.s.to <= x.n + 1; omega, q1, x5.trans (AKL q1 q2)⟩, by show g.length - (x.n + 1) < _; omega⟩
     ·rw [AN] at hq
      have hn : In g (AM g) x.s.to = x.n := x5.trans (AKT x4 hq)
      have e1 : pkM ⟨g, AM g, x.s.to, x.n⟩ = sS g (AM g) x.s.to (In g (AM g) x.s.to) := by rw [hn]; rfl
      have e2 : pkM ⟨g, AM g, x.s.fr, x.n⟩ = sS g (AM g) x.s.fr (In g (AM g) x.s.to) := by rw [hn]; rfl
      have hfr : x.s.fr <= x.s.to := xI.2.1
      have hbl : x.s.b.length <= x.s.fr := xI.2.2.2.1
      have hll : x.s.l.length = x.s.b.length := xI.2.2.2.2.1
      have hkl : x.s.k.length = x.s.b.length := xI.2.2.2.2.2.1
      refine ⟨⟨⟨⟨by omega, by omega, by rw [AN]; omega, by rw [AN]; omega⟩, λ _ h => Rq h⟩, AJM hc _ _⟩, λ hb1 => zz _ (BIA xI x2 (by rw [<- e1]; exact hb1)), λ hb1 => ⟨⟨⟨⟨by omega, by omega, by rw [AN]; omega, by rw [AN]; omega⟩, λ _ h => Rq h⟩, AJM hc _ _⟩, λ hb2 => ?_, λ hb2 => ?_⟩⟩
      ·obtain ⟨f1, f2⟩ := F_go xI x2 (by rw [<- e1]; exact hb1) (by rw [<- e2]; exact hb2)
       exact ⟨goF g (AM g) x.s, ⟨rfl, rfl, by show ((In g (AM g) x.s.to : Nat) : Int) = x.n; rw [hn], rfl, rfl, by rw [e2]; rfl, by rw [e2]; rfl, by rw [e2]; rfl, by rw [e2]; rfl, rfl, λ _ _ => rfl, rfl, λ _ _ => ⟨rfl, rfl, rfl, rfl⟩, rfl, λ _ _ => ⟨rfl, λ _ _ => rfl⟩⟩, f1, by rw [<- x1]; exact f2⟩
      ·obtain ⟨f1, f2⟩ := BGN xI x2 (by rw [<- e1]; exact hb1) (by rw [<- e2]; exact hb2)
       have eB : cX g (AM g) x.s = ⟨x.s.to, x.s.to, x.s.ln, x.s.b ++ [MI g (gD (AM g) x.s.to)], x.s.l ++ [x.s.ln], x.s.k ++ [Hk ⟨g, ((AM g).take x.n).drop x.s.fr⟩]⟩ := by unfold cX; rw [hn]
       rw [eB] at f1 f2
       rw [AKJ (by rw [AN]; exact x4)]
       refine ⟨⟨⟨by omega, by rw [AN]; omega⟩, YD x2, ⟨by omega, λ h => (by cases h), by omega⟩, by omega, λ h => (by cases h), by omega⟩, ⟨⟨⟨by omega, by omega, by rw [AN]; omega⟩, λ i hi => ?_, ⟨⟨by omega, by omega⟩, hck.2⟩, by omega, λ h => (by cases h), by omega⟩, ⟨x.s.to, x.s.to, x.s.ln, x.s.b ++ [MI g (gD (AM g) x.s.to)], x.s.l ++ [x.s.ln], x.s.k ++ [Hk ⟨g, ((AM g).take x.n).drop x.s.fr⟩]⟩, ⟨by simp, rfl, by simp, by simp, rfl, rfl, rfl, rfl, by simp, BBT _ _, by simp, AIQ _ _, by simp, λ i hi => ?_⟩, f1, rfl, by rw [<- x1]; exact f2⟩, λ y ⟨y1, y2, y3⟩ => ⟨y, ⟨rfl, by rw [y2], rfl, rfl, rfl, rfl, rfl, rfl, rfl, rfl, λ _ _ => rfl, rfl, λ _ _ => ⟨rfl, rfl, rfl, rfl⟩, rfl, λ _ _ => ⟨rfl, λ _ _ => rfl⟩⟩, y1, y3⟩⟩
       rw [Fh]; simp [gD, List.getD_eq_getElem?_getD, List.getElem?_take, show x.s.fr + i < x.n by omega]
       rw [bV _ _ (by simpa using hi)]
       cases decide (i < x.s.k.length) <;> exact ⟨rfl, λ _ _ => rfl⟩
   ·rw [AN] at ht
    rw [BGU hI ht]
    exact ⟨⟨by omega, λ h => (by cases h), by omega, by omega⟩, rfl, Nat.le_refl _, λ _ _ => rfl, by simp, by omega, AIQ _ _, rfl, rfl, rfl, λ _ _ => ⟨rfl, λ _ _ => rfl⟩⟩
theorem BXR : AL Try.prog XN (C_fewO.spec Ch) := Ih C_fewO BHD [(0, 303)] [301, 29064] ASG (λ _ => by kernel_rfl) (λ _ => AB Wv (AB BZT (AB Sm (AB BZE (AB Vj (AB Z3 (AB CBD AF))))))) (λ (g : List Gau) h => CDK g h.1 h.2) (λ _ => Jf rfl rfl) _
theorem BLI : AL Try.prog uE (C_KnotsO.spec Ch) := Ih C_KnotsO (λ _ => ann 15 [(XN, C_fewO.spec Ch)]) [(0, 2016)] [] APH (λ _ => by kernel_rfl) (λ _ => AB BXR AF) (λ (g : List Gau) h => by
 show AZO g; rw [BKV]<;> delta GH HK FK AO AT CX AG CG CM EM DM GP NC xM KX BAF AE AJ AP AU BO Ep AX AH BH CY BN CL CZ FT GI AC BB HI CQ EP DF FC DG EN AW DE DN EO DY VA EU FE DV HP FG CO MN FB BE BW BR WZ LD YB VM IR UV Uj Ue Dj Ku; simp only [CC, eq_self, implies_true, forall_const]
 exact h) (λ _ => Jf rfl rfl) _
theorem BLO : AL Try.prog uE (C_KnotsN.spec Ch) := Ih C_KnotsN (λ _ => ann 15 [(XN, C_few.spec Ch)]) [] [] APH (λ _ => by kernel_rfl) (λ _ => AB AVR AF) (λ (g : List Gau) h => by
 show BBR g; rw [BLL]<;> delta GH HK FK AO AT CX AG CG CM EM DM GP EF NC KX AE AP AU AX AH BH CY BN CL CZ FT GI BB HI CQ EP DF FC DG EN AW ZJ DE DN EO DY EU FE DV HP FG CO MN FB BE Ao BW BR WZ dK YB UB Hw Uj Dj Ku YN; simp only [CC, eq_self, implies_true, forall_const]
 obtain ⟨h1, h2⟩ : g.length < 20 /\ (EK g).k = [] := h
 rw [h2]
 exact ⟨h1, rfl, λ i hi => absurd hi (Nat.not_lt_zero _)⟩) (λ _ => Jf rfl rfl) _
end Go.Bal
