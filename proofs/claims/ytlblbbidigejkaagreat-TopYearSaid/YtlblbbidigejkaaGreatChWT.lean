/- Package chart: charts that are made of numbers, with stops. -/
import Derived.Test.YtlblbbidigejkaaGreatGaD
set_option linter.unusedVariables false
set_option linter.unusedSimpArgs false
namespace Go.Bal
open Go Go.Sym Go.Proofs
def BUI(a:MkIQ):Prop:=AS ZP (BST true a) Tryz.f4 (AG Tryz.f4) ((sR true).xs a) (AC ((sR true).L a)) ((sR true).val a) ((sR true).keep a) [] [305]
abbrev Nx:=MkIQ.s
abbrev ZX:=MkIQ.m
abbrev lE:=StmBQ
abbrev Yl:=@Exists KS
abbrev YC:=KS.x
abbrev GD:=KS.k
abbrev BIC:=@Eq (List Mk)
abbrev BIN:=@List.nil Mk
abbrev T7:=λ(f:KS->Prop)=>∀(x:KS),f x
abbrev zW:=@Exists KN
abbrev CR:=KN.i
abbrev BFF:=@Eq NSt
abbrev AVQ:=NSt.ns
abbrev ANT:=λ(f:KN->Prop)=>∀(x:KN),f x
abbrev KJ:=KNb.i
abbrev AGB:=KNb.b
abbrev APK:=KNb.x
abbrev CBS:=λ(f:KNb->Prop)=>∀(x:KNb),f x
abbrev Ky a b:=AN (bR a) (bR b)
abbrev GG a:=NSt.s (KN.x a)
abbrev Qk a:=NSt.s (mE a)
abbrev VI a:=MJ (GG a)
abbrev Vv a:=MS.z (mS a)
abbrev X2 a:=Tru.z (eD a)
abbrev HW a:=MS.st (mS a)
abbrev ACF a:=Tru.s (eD a)
abbrev VP a:=MS.t (mS a)
abbrev W9 a:=Tru.t (eD a)
abbrev B8 a:=AVQ (KN.x a)
abbrev KX a b:=lW (B8 a) b
abbrev wZ a b:=Xv (KX a b)
abbrev CJ a:=Xt (B8 a)
abbrev Vj a:=MS.ms (mS a)
abbrev EZ a:=hd55 (MS.ms (mS a))
abbrev ACK a:=wK (Nx a)
abbrev AKF a:=R6 (Nx a)
abbrev AJL a:=hBs (Nx a)
abbrev AGM a:=hHi (Nx a)
abbrev AEA a:=dU (Nx a)
abbrev AQT a b c:=AJR a b (ZX c)
abbrev Wz a:=AJR 7 7 (ZX a)
abbrev BOS a b:=KM a (ZX b)
abbrev W3 a b:=BOS (AZ a) b
abbrev gO a b c d e f g h:=VM a (W3 b c) d e f g h
abbrev BNU a b:=Or (APQ a) (BMY a b)
abbrev ARW a:=BNU (Vv a) (EZ a)
abbrev BOB a b:=Sc a (EZ b)
abbrev ASM a:=BOB (HW a) a
abbrev APE a:=BOB (VP a) a
abbrev BMI a b c:=BOS (sP a b) c
abbrev ARK a:=BMI (EZ a) 0 a
abbrev BMK a b:=lE (AJR 7 7 a) b
abbrev ZM a:=MS.s (mS a)
abbrev ATF a:=BMK (BBK (ZX a)) (ZM a)
abbrev BEA a b c:=(@Eq MS) (R4 a b c) (mS a)
abbrev AOR a:=BEA a 0 (mS a)
abbrev NP a b c d e f g:=gO (AOR a) 0 b (ATF c) (ARK d) (APE e) (ASM f) (ARW g)
abbrev BJY a b c d e f g:=BLB a b c d b e f g
abbrev BCG a b c:=BUQ a b a a b c
abbrev Tx a b:=BJY a AU AU AU AB AK (BCG AB AK b)
abbrev AZW a b:=Ot (GG a) b
abbrev ABS a:=HC (CR a)
abbrev nS a b:=AZW a (ABS b)
abbrev K6 a b:=MQ (nS a b)
abbrev Up a:=AJ (CR a)
abbrev Dj a:=IU (Vv a)
abbrev Ed a:=MO (Vv a)
abbrev eU a:=IU (HW a)
abbrev gH a:=MO (HW a)
abbrev Fe a:=IU (VP a)
abbrev Dl a:=MO (VP a)
abbrev jW a b c:=ATN a (EZ b) (Vj c)
abbrev HF a:=AI (ACK a)
abbrev GO a:=AI (AKF a)
abbrev GX a:=AI (AJL a)
abbrev HP a:=AI (AGM a)
abbrev HG a:=AI (AEA a)
abbrev cN a b:=Ky (GG a) b
abbrev AHW a b:=Ay (GG a) b
abbrev pB a b:=ZE (GG a) b
abbrev qZ a b:=XW (GG a) b
abbrev AJW a:=AVQ (mNs a)
abbrev N1 a:=Xt (AJW a)
abbrev WM a:=NSt.s (mNs a)
abbrev AQM a b c d:=lE (AJR a b c) d
abbrev ZO a:=AI (MJ a)
abbrev Wk a:=(@Eq (List Nt)) a (@List.nil Nt)
abbrev YY a b c d:=E2 a b c AU AU AU (BCG AB AK d)
abbrev ABT a:=BI (EZ a)
abbrev ABJ a b:=AN a (MJ b)
abbrev uD a:=LS (CJ a)
abbrev AKK a b c d e:=BFF (mkN a (KO (EZ b) c) c d) (mNs e)
abbrev Lu a b c d e:=AKK a b c (KN.x d) e
abbrev AHV a b c:=AQM a 5 (AZ b) c
abbrev Ka a b c:=AHV a (CR b) (GG c)
abbrev Gu a:=HN (CR a)
abbrev AHF a b:=AQT a 7 b
abbrev M7 a:=AHF 12 a
abbrev AJZ a b:=UI 100 a (CR b)
abbrev O5 a b:=AJZ (CR a) b
abbrev AHP a b:=OB a (EZ b)
abbrev C4 a b:=AHP (CR a) b
abbrev aW a:=AVQ (APK a)
abbrev YW a:=Xt (aW a)
abbrev Fp a:=NSt.s (APK a)
abbrev cW a:=Np (Fp a)
abbrev ACO a:=Ay a 9
abbrev AXK a b:=BJF (cW a) (Fp b)
abbrev Wb a:=AWZ (AXK a a) 40
abbrev AZX a:=ABB (Wb a)
abbrev Kk a:=AWZ (AZX a) 40
abbrev Nb a:=ACO (Kk a)
abbrev mR a b:=ID a (KJ b)
abbrev sW a:=ACO (Nb a)
abbrev Ek a:=IM (MJ a)
abbrev oU a:=AHW a 2
abbrev EX a:=MS.z (YC a)
abbrev VT a:=BQ (EX a)
abbrev ET a:=MS.st (YC a)
abbrev AZT a b:=BH a (ET b)
abbrev DN a:=MS.t (YC a)
abbrev BBD a b:=BH a (DN b)
abbrev PZ a:=MS.ms (YC a)
abbrev DZ a:=hd55 (MS.ms (YC a))
abbrev BCN a b:=BB a (DZ b)
abbrev UT a:=MS.s (YC a)
abbrev Ww a:=MJ (UT a)
abbrev ADZ a:=LS (VT a)
abbrev VV a:=LS (DZ a)
abbrev sU a b:=BNU (EX a) (DZ b)
abbrev BMA a b:=Sc a (DZ b)
abbrev fC a:=BMA (ET a) a
abbrev gQ a:=BMA (DN a) a
abbrev jZ a b:=BMI (DZ a) (GD a) b
abbrev BNL a b:=tS (ZX a) (GD b)
abbrev sI a b c:=BMK (BNL a b) (UT c)
abbrev sS a b c:=BEA a (GD b) (YC c)
abbrev Pj a b c d e:=BJY a AB b c d AB e
abbrev fG a b c:=Md (ABB a) b c
abbrev ARE a:=ABB (UT a)
abbrev F5 a b:=vJ (ARE a) b
abbrev BOZ a b:=BEJ (AJL a) (AKF a) (F5 b 60)
abbrev gY a b:=CP (BOZ a b) (ACK a)
abbrev gA a b:=CW (BOZ a b) (ACK a)
abbrev BNR a b:=AWZ (ARE a) b
abbrev NV a:=BNR a 60
abbrev IR a:=MS.tm (YC a)
abbrev iE a:=MS.pl (YC a)
abbrev Ix a b:=Ky (UT a) b
abbrev qN a b c:=ANS (ABB a) b c
abbrev Cl a b c d e:=qN (NV a) (gA b c) (gY d e)
abbrev Vu a b:=ABJ (Ww a) b
abbrev He a b:=ZE (UT a) b
abbrev Ht a b:=XW (UT a) b
abbrev BBO a b:=AN (iE a) b
abbrev Wy a b:=BBO a (iE b)
abbrev mY a b:=AJC (UT a) (Ww b)
abbrev Dp a b c d e f g h:=AQ (BEA a (Dz (GD b)) (addM c d)) (AGW (GD e) (W3 (GD f) g)) h
abbrev Ef a b c d e f g:=Ep a (jZ b c) (gQ d) (fC e) f (DZ g)
abbrev AJI a b c d:=AQM a 7 (BNL b c) (UT d)
abbrev Uf a b c:=AJI 11 a b c
abbrev qY a b:=BO (ET a) (ET b)
abbrev Mj a b:=AZT (ET a) b
abbrev sL a b:=BO (DN a) (DN b)
abbrev Aw a b:=BBD (DN a) b
abbrev oV a b c:=US (DZ a) (PZ b) (PZ c)
abbrev Ax a b:=BCN (DZ a) b
abbrev kI a b:=AT (GD a) (GD b)
abbrev Jw a:=BNR a 5
abbrev mW a:=Ay (Jw a) 400
abbrev AJO a:=ANS (ARE a) 1 30
abbrev oG a b c:=qN (AJO a) b c
abbrev AZE a b c:=Md (ARE a) b c
abbrev BKC a b:=UC a (AZE b 1 30)
abbrev Of a b:=BKC (AGM a) b
abbrev Qt a b:=BKC (AEA a) b
abbrev Bj a:=JM (GD a) 20
abbrev Qi a:=APQ (EX a)
abbrev AHA a b c d e f g:=Ec a b c d e f f g
abbrev AIL a b c d e:=ARZ a a b c d c c e
abbrev BBS a b:=BCG a b a
abbrev Qy a:=gS6 (Nx a)
abbrev Sm a:=gS5 (Nx a)
abbrev Qv a:=gS4 (Nx a)
abbrev F3 a:=qN (Nx a) 1 12
abbrev N4 a:=qN (F3 a) (-50) 400
abbrev Zb a:=Ay (N4 a) 12
attribute [go_sem] Nx ZX lE Yl YC GD BIC BIN T7 zW CR BFF AVQ ANT KJ AGB APK CBS Ky GG Qk VI Vv X2 HW ACF VP W9 B8 KX wZ CJ Vj EZ ACK AKF AJL AGM AEA AQT Wz BOS W3 gO BNU ARW BOB ASM APE BMI ARK BMK ZM ATF BEA AOR NP BJY BCG Tx AZW ABS nS K6 Up Dj Ed eU gH Fe Dl jW HF GO GX HP HG cN AHW pB qZ AJW N1 WM AQM ZO Wk YY ABT ABJ uD AKK Lu AHV Ka Gu AHF M7 AJZ O5 AHP C4 aW YW Fp cW ACO AXK Wb AZX Kk Nb mR sW Ek oU EX VT ET AZT DN BBD PZ DZ BCN UT Ww ADZ VV sU BMA fC gQ jZ BNL sI sS Pj fG ARE F5 BOZ gY gA BNR NV IR iE Ix qN Cl Vu He Ht BBO Wy mY Dp Ef AJI Uf qY Mj sL Aw oV Ax kI Jw mW AJO oG AZE BKC Of Qt Bj Qi AHA AIL BBS Qy Sm Qv F3 N4 Zb
theorem CCZ(a:MkIQ):(BUI a)=(And (EM Vq (AP (DJ 12 12) (Ff (Nx a)) (Es (Nx a)) (ZO (Nx a)) (XL (Nx a)) (Ek (Nx a)) (AN (-50) (Int.negSucc 49)) (DJ 400 400) (AP (Ff (F3 a)) (Es (F3 a)) (ZO (F3 a)) (XL (F3 a)) (Ek (F3 a)) (DJ 12 12) (Ff (N4 a)) (Es (N4 a)) (AP (ZO (N4 a)) (XL (N4 a)) (Ek (N4 a)) (DJ 9 9) (Ff (Zb a)) (Es (Zb a)) (ZO (Zb a)) (XL (Zb a)) (BEF (MJ (Zb a)))))) (Nq (λi=>EM (AI (ZX a)) (JG CY (XW (Qv a) (ACO (Zb a))) (ZE (Qv a) (ACO (Zb a))) (MJ (Qv a)) (MJ (ACO (Zb a))) (Tx (Ky (Qv a) (ACO (Zb a))) (BU (AN (AEA a) (fG (Nx a) 1 12)) AU (AN (AJL a) (fG (F3 a) (-50) 400)) (AN (AKF a) (Ot (N4 a) 12)) (AN (ACK a) (Ot (Zb a) 9)) AB (λj=>AIM j 0) AB AK))) (lE 4 (Qv a))))) (Pb (lE 4 (Qv a)) (EM (DJ 6 6) (uA (Qv a)) (Nq (λi=>EM (AI (ZX a)) (JG CY (XW (Sm a) (Ay (Qv a) 6)) (ZE (Sm a) (Ay (Qv a) 6)) (MJ (Sm a)) (MJ (Ay (Qv a) 6)) (Tx (Ky (Sm a) (Ay (Qv a) 6)) (BU (HG a) (Ug (AGM a) (AEA a) (Ot (Qv a) 6)) (GX a) (GO a) (HF a) AB (λj=>AIM j 0) AB AK))) (lE 5 (Sm a))))) (Pb (lE 5 (Sm a)) (EM (DJ 300 300) (uA (Sm a)) (ASQ (BW (AI (ZX a)) CY AU (AN (hTm (Nx a)) (Ot (Sm a) 300)) (XW (Qy a) (Ay (Sm a) 300)) (YY (ZE (Qy a) (Ay (Sm a) 300)) (ABJ (MJ (Qy a)) (Ay (Sm a) 300)) (Ky (Qy a) (Ay (Sm a) 300)) (Dg AK (HG a) (HP a) (GX a) (GO a) (HF a) (BBS AK AB)))) (lE 6 (Qy a)))) (ADG (lE 6 (Qy a)) (WH (CB (LZ Vq (ZX a) (uA (Qy a))) (Yl (λi=>CB (BW CY (BZ (iE i)) (AN (IR i) (hTm (Nx a))) (TO (GD i) (fG (Qy a) 1 (ZX a))) (Ht i (qN (Qy a) 1 (ZX a))) (YY (He i (qN (Qy a) 1 (ZX a))) (Vu i (qN (Qy a) 1 (ZX a))) (Ix i (qN (Qy a) 1 (ZX a))) (Dg AK (HG a) (HP a) (GX a) (GO a) (HF a) (BBS AK AB)))) (gO (sS a i i) (GD i) a (sI a i i) (jZ i a) (gQ i) (fC i) (sU i i)) (LS (GD i)) (BIC (PZ i) BIN) (Qi i))) (T7 (λi=>Km (AO (gO (sS a i i) (GD i) a (sI a i i) (jZ i a) (gQ i) (fC i) (sU i i)) (LS (GD i)) (BIC (PZ i) BIN) (Qi i)) (Lc (GD i)) (Yl (λj=>CB (BW CY (Wy j i) (AN (IR j) (IR i)) (kI j i) (Ht j (UT i)) (YY (He j (UT i)) (AN (Ww j) (Ww i)) (Ix j (UT i)) (Dg AK (HG a) (HP a) (GX a) (GO a) (HF a) (BBS AK AB)))) (Dp a j a (YC j) j j a (Ef (Uf a j j) j a j j (VT j) j)) (BI 100) (BIC (PZ j) BIN) (Qi j))) (T7 (λj=>TD (AO (Dp a j a (YC j) j j a (Ef (Uf a j j) j a j j (VT j) j)) (BI 100) (BIC (PZ j) BIN) (Qi j)) (CV oI (mY j j) (And (Wr 2 16) (DO (pZ rE Ro Lo 8) (gA a j) (gY a j) (Ff (NV j)) (AP (Es (NV j)) (ZO (NV j)) (XL (NV j)) (Ek (NV j)) rE (Zj AJX) Ro Lo (Yv 8)))) (Yl (λk=>NT (And CY (LL (Wy k j) (IR k) (IR j) (AHA (On (GD k) (GD j)) (Ht k (Cl j a j a j)) (He k (Cl j a j a j)) (Vu k (Cl j a j a j)) (Ix k (Cl j a j a j)) AU (AIL AU AB AK AB (AEG AB AK (HG a) (HP a) (GX a) (GO a) (Pj (HF a) (XS (DZ k)) AK (qJ (DN k)) (ZV (qJ (ET k)) AB AK (XS (DZ k)) (AE (λl=>AJB l (DZ k) (PZ k) l (iE j) (PZ k) (F5 j 60))) (qJ (DN k)) (AE (λl=>VL l (DN k) l (IR j))) (λl=>VL l (ET k) l (fG (NV j) (gA a j) (gY a j)))))))))) (AQ (gO (sS a k k) (GD k) a (sI a k k) (jZ k a) (gQ k) (fC k) (sU k k)) (VV k) (Qi k)) (Bj k) 100))))) (Nq (λj=>Fj (And (XW (ZM a) (UT i)) (YY (ZE (ZM a) (UT i)) (AN (MJ (ZM a)) (Ww i)) (Ky (ZM a) (UT i)) (AP AB AK (HG a) (HP a) (GX a) (GO a) (HF a) (fF (EZ a)) (BBA (fF (EZ a)) AB AK (TI (VP a)) (TI (VP a)) (TI (HW a)) (TI (Vv a)))))) (AOR a) (W3 0 a) (ATF a) (ARK a) (APE a) (ASM a) (ARW a))))) (T7 (λi=>Oq (AQ (gO (sS a i i) (GD i) a (sI a i i) (jZ i a) (gQ i) (fC i) (sU i i)) (VV i) (Qi i)) (Lc (GD i)) (AQ (YL (Lc (DZ i)) (AQ (LL Vq 30 (wM 30) (mY i i)) (And (KD (Qt a i) (Of a i) (uA (AJO i))) (Yl (λj=>TY (And CY (LL (BBO j (CP (iE i) (AZE i 1 30))) (IR j) (CP (IR i) (fG (AJO i) (Qt a i) (Of a i))) (AHA (kI j i) (Ht j (oG i (Qt a i) (Of a i))) (He j (oG i (Qt a i) (Of a i))) (Vu j (oG i (Qt a i) (Of a i))) (Ix j (oG i (Qt a i) (Of a i))) AU (AIL AU AB AK AB (AEG AB AK (HG a) (HP a) (GX a) (GO a) (Pj (HF a) (Ax j i) AK (Aw j i) (Oc (Mj j i) AB AK (Ax j i) (oV j j i) (Aw j i) (sL j i) (qY j i)))))))) (Dp a j a (S0 a (YC j)) j j a (Ef (AJI 9 a j j) j a j j (aC (EX j)) j)) (Bj j) (Bj i) (VV j) (Qi j)))) (T7 (λj=>TD (Cj (Dp a j a (S0 a (YC j)) j j a (Ef (AJI 9 a j j) j a j j (aC (EX j)) j)) (Bj j) (Bj i) (VV j) (Qi j)) (BFN CY CY (And (DJ 5 5) (mY j j)) (YL (IC Fa (WO (F5 j 5))) (AQ (pZ rE Ro Lo 8) (And (DJ 400 400) (uA (Jw j))) (Yl (λk=>Ep (BW CY (Wy k j) (Ug (IR k) (IR j) (Ot (Jw j) 400)) (kI k j) (Ht k (mW j)) (YY (He k (mW j)) (Vu k (mW j)) (Ix k (mW j)) (Dg AK (HG a) (HP a) (GX a) (GO a) (HF a) (Pj (Ax k j) AK (Aw k j) (Mj k j) (ZV (qJ (EX k)) (Ax k j) (oV k k j) (Aw k j) (sL k j) (Mj k j) (qY k j) (λl=>VL l (EX k) l (Oo (DZ j)))))))) (Dp a k a (YC k) k k a (Ef (Uf a k k) k a k k (VT k) k)) (DC (GD k) (Bj i)) (VV k) 1 (VT k)))) (Yl (λk=>TY (And CY (LL (Wy k j) (IR k) (IR j) (AHA (kI k j) (Ht k (Jw j)) (He k (Jw j)) (Vu k (Jw j)) (Ix k (Jw j)) AU (AIL AU AB AK AB (AEG AB AK (HG a) (HP a) (GX a) (GO a) (Pj (HF a) (Ax k j) AK (Aw k j) (Oc (Mj k j) AB AK (Ax k j) (oV k k j) (Aw k j) (sL k j) (qY k j)))))))) (Dp a k a (YC k) k k a (Ef (Uf a k k) k a k k (VT k) k)) (Bj k) (Bj i) (VV k) (Qi k)))))))) (Yl (λj=>TY (And CY (LL (Wy j i) (IR j) (IR i) (AHA (kI j i) (Ht j (UT i)) (He j (UT i)) (AN (Ww j) (Ww i)) (Ix j (UT i)) AU (AIL AU AB AK AB (AEG AB AK (HG a) (HP a) (GX a) (GO a) (Pj (HF a) (Ax j i) AK (Aw j i) (Oc (Mj j i) AB AK (Ax j i) (oV j j i) (Aw j i) (sL j i) (qY j i)))))))) (Dp a j a (YC j) j j a (Ef (Uf a j j) j a j j (VT j) j)) (Bj j) (Bj i) (VV j) (Qi j)))) (T7 (λj=>TD (Cj (Dp a j a (YC j) j j a (Ef (Uf a j j) j a j j (VT j) j)) (Bj j) (Bj i) (VV j) (Qi j)) (CV oI (mY j j) (And (jE (DZ j)) (DO (iK (jQ (DN j)) (fI (DN j)) (fX (DN j))) (gA a j) (gY a j) (Ff (NV j)) (AP (Es (NV j)) (ZO (NV j)) (XL (NV j)) (Ek (NV j)) (jQ (ET j)) (Zj AJX) aG (fI (ET j)) (Yv (fX (ET j)))))) (Yl (λk=>NT (And CY (LL (Wy k j) (IR k) (IR j) (AHA (On (GD k) (GD j)) (Ht k (Cl j a j a j)) (He k (Cl j a j a j)) (Vu k (Cl j a j a j)) (Ix k (Cl j a j a j)) AU (AIL AU AB AK AB (AEG AB AK (HG a) (HP a) (GX a) (GO a) (Pj (HF a) (OK (DZ k) (DZ j)) AK (Fg (DN k) (DN j)) (ZV (Fg (ET k) (ET j)) AB AK (OK (DZ k) (DZ j)) (AE (λl=>AJB l (DZ k) (PZ k) l (BF l (DZ j) (Zc (PZ j) l) (iE j)) (PZ k) (BF l (DZ j) (pW (PZ j) l) (F5 j 60)))) (Fg (DN k) (DN j)) (AE (λl=>VL l (DN k) l (BF l (BQ (DN j)) (ID (DN j) l) (IR j)))) (λl=>VL l (ET k) l (BF l (BQ (ET j)) (ID (ET j) l) (fG (NV j) (gA a j) (gY a j))))))))))) (AQ (gO (sS a k k) (GD k) a (sI a k k) (jZ k a) (gQ k) (fC k) (sU k k)) (VV k) (Qi k)) (Bj k) (Bj i)))))) (T7 (λj=>TD (Cj (Dp a j a (YC j) j j a (Ef (Uf a j j) j a j j (VT j) j)) (GD j) (Bj i) (VV j) (ADZ j)) (CV oI (mY j j) (And (jE (DZ j)) (DO (iK (jQ (DN j)) (fI (DN j)) (fX (DN j))) (gA a j) (gY a j) (Ff (NV j)) (AP (Es (NV j)) (ZO (NV j)) (XL (NV j)) (Ek (NV j)) (jQ (ET j)) (Zj AJX) aG (fI (ET j)) (Yv (fX (ET j)))))) (Yl (λk=>NT (BW CY (Wy k j) (AN (IR k) (IR j)) (On (GD k) (GD j)) (Ht k (Cl j a j a j)) (YY (He k (Cl j a j a j)) (Vu k (Cl j a j a j)) (Ix k (Cl j a j a j)) (Dg AK (HG a) (HP a) (GX a) (GO a) (HF a) (Pj (OK (DZ k) (DZ j)) AK (Fg (DN k) (DN j)) (Fg (ET k) (ET j)) (Oc (BH (EX k) (EX j)) (OK (DZ k) (DZ j)) (AE (λl=>AJB l (DZ k) (PZ k) l (BF l (DZ j) (Zc (PZ j) l) (iE j)) (PZ k) (BF l (DZ j) (pW (PZ j) l) (F5 j 60)))) (Fg (DN k) (DN j)) (AE (λl=>VL l (DN k) l (BF l (BQ (DN j)) (ID (DN j) l) (IR j)))) (Fg (ET k) (ET j)) (AE (λl=>VL l (ET k) l (BF l (BQ (ET j)) (ID (ET j) l) (fG (NV j) (gA a j) (gY a j))))) (BO (EX k) (EX j))))))) (AQ (gO (sS a k k) (GD k) a (sI a k k) (jZ k a) (gQ k) (fC k) (sU k k)) (VV k) (ADZ k)) (GD k) (Bj i))))))) (Fj (JG (XW (ZM a) (UT i)) (ZE (ZM a) (UT i)) (AN (MJ (ZM a)) (Ww i)) (bR (ZM a)) (bR (UT i)) (RI AU AU AU AU AB AK AB (BPG AK AB AK (HG a) (BU (HP a) (GX a) (GO a) (HF a) (BCN (EZ a) i) (LU (DZ i)) (λj=>BBT j (EZ a) (Vj a) (PZ i) (AJ j) (AJ j)) AB (B9 AK (BBD (VP a) i) (LU (BQ (DN i))) (AE (λj=>jU j (VP a) (DN i) (AJ j))) (AZT (HW a) i) (LU (BQ (ET i))) (AE (λj=>jU j (HW a) (ET i) (AJ j))) (TI (Vv a))))))) (AOR a) (W3 0 a) (ATF a) (ARK a) (APE a) (ASM a) (ARW a)))) (T7 (λi=>Oq (AQ (gO (sS a i i) (GD i) a (sI a i i) (jZ i a) (gQ i) (fC i) (sU i i)) (VV i) (ADZ i)) (Lc (GD i)) (WH (YL (Lc (DZ i)) (AQ (LL Vq 30 (wM 30) (mY i i)) (And (KD (Qt a i) (Of a i) (uA (AJO i))) (Yl (λj=>Ep (BW CY (BBO j (CP (iE i) (AZE i 1 30))) (Ug (IR j) (IR i) (fG (AJO i) (Qt a i) (Of a i))) (kI j i) (Ht j (oG i (Qt a i) (Of a i))) (YY (He j (oG i (Qt a i) (Of a i))) (Vu j (oG i (Qt a i) (Of a i))) (Ix j (oG i (Qt a i) (Of a i))) (Dg AK (HG a) (HP a) (GX a) (GO a) (HF a) (Pj (Ax j i) AK (Aw j i) (Mj j i) (Oc (BH (EX j) (EX i)) (Ax j i) (oV j j i) (Aw j i) (sL j i) (Mj j i) (qY j i) (BO (EX j) (EX i))))))) (Dp a j a (S0 a (YC j)) j j a (Ef (AJI 9 a j j) j a j j (aC (EX j)) j)) (DC (GD j) (GD i)) (VV j) 1 (VT j)))) (T7 (λj=>TD (Cj (Dp a j a (S0 a (YC j)) j j a (Ef (AJI 9 a j j) j a j j (aC (EX j)) j)) (GD j) (GD i) (VV j) (ADZ j)) (BFN CY CY (And (DJ 5 5) (mY j j)) (YL (IC Fa (WO (F5 j 5))) (AQ (iK (jQ (EX j)) (fI (EX j)) (fX (EX j))) (And (DJ 400 400) (uA (Jw j))) (Yl (λk=>Ep (BW CY (Wy k j) (Ug (IR k) (IR j) (Ot (Jw j) 400)) (kI k j) (Ht k (mW j)) (YY (He k (mW j)) (Vu k (mW j)) (Ix k (mW j)) (Dg AK (HG a) (HP a) (GX a) (GO a) (HF a) (Pj (Ax k j) AK (Aw k j) (Mj k j) (ZV (Fg (EX k) (EX j)) (Ax k j) (oV k k j) (Aw k j) (sL k j) (Mj k j) (qY k j) (λl=>VL l (EX k) l (BF l (VT j) (ID (EX j) l) (Oo (DZ j))))))))) (Dp a k a (YC k) k k a (Ef (Uf a k k) k a k k (VT k) k)) (DC (GD k) (GD i)) (VV k) 1 (VT k)))) (Yl (λk=>Ep (BW CY (Wy k j) (AN (IR k) (IR j)) (kI k j) (Ht k (Jw j)) (YY (He k (Jw j)) (Vu k (Jw j)) (Ix k (Jw j)) (Dg AK (HG a) (HP a) (GX a) (GO a) (HF a) (Pj (Ax k j) AK (Aw k j) (Mj k j) (Oc (BH (EX k) (EX j)) (Ax k j) (oV k k j) (Aw k j) (sL k j) (Mj k j) (qY k j) (BO (EX k) (EX j))))))) (Dp a k a (YC k) k k a (Ef (Uf a k k) k a k k (VT k) k)) (DC (GD k) (GD i)) (VV k) 1 (VT k)))))))) (Yl (λj=>Ep (BW CY (Wy j i) (AN (IR j) (IR i)) (kI j i) (Ht j (UT i)) (YY (He j (UT i)) (AN (Ww j) (Ww i)) (Ix j (UT i)) (Dg AK (HG a) (HP a) (GX a) (GO a) (HF a) (Pj (Ax j i) AK (Aw j i) (Mj j i) (Oc (BH (EX j) (EX i)) (Ax j i) (oV j j i) (Aw j i) (sL j i) (Mj j i) (qY j i) (BO (EX j) (EX i))))))) (Dp a j a (YC j) j j a (Ef (Uf a j j) j a j j (VT j) j)) (DC (GD j) (GD i)) (VV j) 1 (VT j)))) (T7 (λj=>TD (Cj (Dp a j a (YC j) j j a (Ef (Uf a j j) j a j j (VT j) j)) (GD j) (GD i) (VV j) (ADZ j)) (CV oI (mY j j) (And (jE (DZ j)) (DO (iK (jQ (DN j)) (fI (DN j)) (fX (DN j))) (gA a j) (gY a j) (Ff (NV j)) (AP (Es (NV j)) (ZO (NV j)) (XL (NV j)) (Ek (NV j)) (jQ (ET j)) (Zj AJX) aG (fI (ET j)) (Yv (fX (ET j)))))) (Yl (λk=>NT (BW CY (Wy k j) (AN (IR k) (IR j)) (On (GD k) (GD j)) (Ht k (Cl j a j a j)) (YY (He k (Cl j a j a j)) (Vu k (Cl j a j a j)) (Ix k (Cl j a j a j)) (Dg AK (HG a) (HP a) (GX a) (GO a) (HF a) (Pj (OK (DZ k) (DZ j)) AK (Fg (DN k) (DN j)) (Fg (ET k) (ET j)) (Oc (BH (EX k) (EX j)) (OK (DZ k) (DZ j)) (AE (λl=>AJB l (DZ k) (PZ k) l (BF l (DZ j) (Zc (PZ j) l) (iE j)) (PZ k) (BF l (DZ j) (pW (PZ j) l) (F5 j 60)))) (Fg (DN k) (DN j)) (AE (λl=>VL l (DN k) l (BF l (BQ (DN j)) (ID (DN j) l) (IR j)))) (Fg (ET k) (ET j)) (AE (λl=>VL l (ET k) l (BF l (BQ (ET j)) (ID (ET j) l) (fG (NV j) (gA a j) (gY a j))))) (BO (EX k) (EX j))))))) (AQ (gO (sS a k k) (GD k) a (sI a k k) (jZ k a) (gQ k) (fC k) (sU k k)) (VV k) (ADZ k)) (GD k) (GD i))))))) (Fj (BW (XW (ZM a) (UT i)) (ZE (ZM a) (UT i)) (AN (MJ (ZM a)) (Ww i)) (Ky (ZM a) (UT i)) AU (BVF AU AU AU AU AB AK (BUQ AB AK AB (HG a) (HP a) (AP (GX a) (GO a) (HF a) (BCN (EZ a) i) (LU (DZ i)) (AE (λj=>BBT j (EZ a) (Vj a) (PZ i) (AJ j) (AJ j))) AB AK (Pm (BBD (VP a) i) (LU (BQ (DN i))) (λj=>jU j (VP a) (DN i) (AJ j)) (AZT (HW a) i) (LU (BQ (ET i))) (AE (λj=>jU j (HW a) (ET i) (AJ j))) (BH (Vv a) (EX i)) (LU (VT i)) (AE (λj=>jU j (Vv a) (EX i) (AJ j)))))))) (AOR a) (W3 0 a) (ATF a) (ARK a) (APE a) (ASM a) (ARW a))))) (ADG (NP a a a a a a a) (AQ (AQ (zW (λi=>AQ (AQ (BC (CR i)) (qZ i (ZM a)) (YY (pB i (ZM a)) (ABJ (VI i) (ZM a)) (cN i (ZM a)) (AP AB AK (HG a) (HP a) (GX a) (GO a) (HF a) (ABT a) (NG (fM (EZ a) (Vj a)) AB AK (Dl a) (Fe a) (HW a) (λj=>UV j (HW a)) (Ed a) (Dj a))))) (Ep (NP a a a a a a a) (DC (CR i) (EZ a)) (Ka (Wz a) i i) (Lu a a (CR i) i a) (CJ i) (CR i)) (Wk (B8 i)))) (ANT (λi=>Oq (And (Ep (NP a a a a a a a) (DC (CR i) (EZ a)) (Ka (Wz a) i i) (Lu a a (CR i) i a) (CJ i) (CR i)) (Wk (B8 i))) (IC (AQX (CR i) (EZ a)) (RL 0 20)) (CV (EM (DJ 2 2) (AJC (GG i) (VI i)) ((@Exists KNb) (λj=>AQ (AO (AT (KJ j) (CR i)) (Sr (AGB j) (WO (AZW i 2))) (AOW (cW j) (oU i)) (YY (APO (cW j) (oU i)) (ABJ (MJ (Fp j)) (oU i)) (Ky (Fp j) (oU i)) (AP AB AK (HG a) (HP a) (GX a) (GO a) (HF a) (ABT a) (NG (fM (EZ a) (Vj a)) AB AK (Dl a) (Fe a) (HW a) (λk=>UV k (HW a)) (Ed a) (Dj a))))) (Pn (NP a a a a a a a) (AHP (KJ j) a) (AJZ (KJ j) i) (AHV (AHF 8 a) (KJ j) (Fp j)) (AKK a a (HN (KJ j)) (addN a (AGB j) (KJ j) (APK j)) a) (YW j) (KJ j)) (Wk (aW j))))) (CBS (λj=>Km (And (Pn (NP a a a a a a a) (AHP (KJ j) a) (AJZ (KJ j) i) (AHV (AHF 8 a) (KJ j) (Fp j)) (AKK a a (HN (KJ j)) (addN a (AGB j) (KJ j) (APK j)) a) (YW j) (KJ j)) (Wk (aW j))) (AGB j) (Oc (MZ (KJ j) (VP a)) (DJ 40 40) (JZ (cW j)) (JO (cW j)) (ZO (Fp j)) (XL (Fp j)) (Ek (Fp j)) (AP (DJ 40 40) (Ff (Wb j)) (Es (Wb j)) (ZO (Wb j)) (XL (Wb j)) (Ek (Wb j)) (MZ (KJ j) (HW a)) (DJ 9 9) (AP (Ff (Kk j)) (Es (Kk j)) (ZO (Kk j)) (XL (Kk j)) (Ek (Kk j)) (MZ (KJ j) (HW a)) (DJ 9 9) (Ff (Nb j)) (AP (Es (Nb j)) (ZO (Nb j)) (XL (Nb j)) (Ek (Nb j)) (ABZ 5) (Zj (aJ 1 5)) Ro Lo (Yv 40))))) (zW (λk=>AQ (JG (AT (CR k) (KJ j)) (qZ k (sW j)) (pB k (sW j)) (VI k) (MJ (sW j)) (Tx (cN k (sW j)) (BV (HG a) (HP a) (GX a) (GO a) (HF a) (EZ a) (λl=>jW l a a) AB (ZV (XS (CJ k)) (Dl a) (Fe a) (gH a) (eU a) (Ed a) (Dj a) (λl=>HB l (CJ k) (A6 (wZ k l) (AZ (KJ j)) (qD (KX k l) (xD (CW (mR (VP a) j) (vJ (AXK j j) 40)))) (KX k l) (CP (mR (VP a) j) (vJ (AZX j) 40)) (CW (mR (HW a) j) (Ot (Kk j) 9)) (CP (mR (HW a) j) (Ot (Nb j) 9)))))))) (Pn (NP a a a a a a a) (C4 k a) (O5 k i) (Ka (M7 a) k k) (Lu a a (Gu k) k a) (CJ k) (Gu k)) (uD k))) (zW (λk=>AQ (AQ (AT (CR k) (KJ j)) (BH (Np (GG k)) (cW j)) (YY (BO (Np (GG k)) (cW j)) (ABJ (VI k) (Fp j)) (cN k (Fp j)) (AP AB AK (HG a) (HP a) (GX a) (GO a) (HF a) (ABT a) (NG (fM (EZ a) (Vj a)) AB AK (Dl a) (Fe a) (HW a) (λl=>UV l (HW a)) (Ed a) (Dj a))))) (Pn (NP a a a a a a a) (C4 k a) (O5 k i) (Ka (M7 a) k k) (Lu a a (Gu k) k a) (CJ k) (Gu k)) (Wk (B8 k)))))) (ANT (λj=>TD (And (Pn (NP a a a a a a a) (C4 j a) (O5 j i) (Ka (M7 a) j j) (Lu a a (Gu j) j a) (CJ j) (Gu j)) (Wk (B8 j))) (zW (λk=>EO (AQ (AR (CR k) (CR j)) (qZ k (GG j)) (YY (pB k (GG j)) (AN (VI k) (VI j)) (cN k (GG j)) (AP AB AK (HG a) (HP a) (GX a) (GO a) (HF a) (ABT a) (NG (fM (EZ a) (Vj a)) AB AK (Dl a) (Fe a) (HW a) (λl=>UV l (HW a)) (Ed a) (Dj a))))) (And (Ep (NP a a a a a a a) (DC (CR k) (EZ a)) (Ka (Wz a) k k) (Lu a a (CR k) k a) (CJ k) (CR k)) (Wk (B8 k))) 100 (CR k) (CR i))))) (ANT (λj=>TD (And (Pn (NP a a a a a a a) (C4 j a) (O5 j i) (Ka (M7 a) j j) (Lu a a (Gu j) j a) (CJ j) (Gu j)) (uD j)) (zW (λk=>EO (JG (AR (CR k) (CR j)) (qZ k (GG j)) (pB k (GG j)) (VI k) (VI j) (Tx (cN k (GG j)) (BV (HG a) (HP a) (GX a) (GO a) (HF a) (EZ a) (λl=>jW l a a) AB (ZV (BB (CJ k) (CJ j)) (Dl a) (Fe a) (gH a) (eU a) (Ed a) (Dj a) (λl=>HB l (CJ k) (Hy (KX k l) (KX j l))))))) (And (Ep (NP a a a a a a a) (DC (CR k) (EZ a)) (Ka (Wz a) k k) (Lu a a (CR k) k a) (CJ k) (CR k)) (uD k)) 100 (CR k) (CR i)))))) (CV (XW (WM a) (GG i)) (YY (ZE (WM a) (GG i)) (AN (MJ (WM a)) (VI i)) (Ky (WM a) (GG i)) (AP AB AK (HG a) (HP a) (GX a) (GO a) (HF a) (ABT a) (NG (fM (EZ a) (Vj a)) AB AK (Dl a) (Fe a) (HW a) (λj=>UV j (HW a)) (Ed a) (Dj a)))) (NP a a a a a a a) (Wk (AJW a))))) (ANT (λi=>Oq (And (Ep (NP a a a a a a a) (DC (CR i) (EZ a)) (Ka (Wz a) i i) (Lu a a (CR i) i a) (CJ i) (CR i)) (uD i)) (IC (AQX (CR i) (EZ a)) (RL (CJ i) 20)) (WH (And (EM (DJ 2 2) (AJC (GG i) (VI i)) ((@Exists KNb) (λj=>CV (AT (KJ j) (CR i)) (JG (Sr (AGB j) (WO (AZW i 2))) (AOW (cW j) (oU i)) (APO (cW j) (oU i)) (MJ (Fp j)) (MJ (oU i)) (Tx (Ky (Fp j) (oU i)) (BV (HG a) (HP a) (GX a) (GO a) (HF a) (EZ a) (λk=>jW k a a) AB (ZV (BB (YW j) (CJ i)) (Dl a) (Fe a) (gH a) (eU a) (Ed a) (Dj a) (λk=>Rf k (aW j) k (KX i k)))))) (Pn (NP a a a a a a a) (AHP (KJ j) a) (AJZ (KJ j) i) (AHV (AHF 8 a) (KJ j) (Fp j)) (AKK a a (HN (KJ j)) (addN a (AGB j) (KJ j) (APK j)) a) (YW j) (KJ j)) (LS (YW j))))) (CBS (λj=>Km (And (Pn (NP a a a a a a a) (AHP (KJ j) a) (AJZ (KJ j) i) (AHV (AHF 8 a) (KJ j) (Fp j)) (AKK a a (HN (KJ j)) (addN a (AGB j) (KJ j) (APK j)) a) (YW j) (KJ j)) (LS (YW j))) (AGB j) (Oc (MZ (KJ j) (VP a)) (DJ 40 40) (JZ (cW j)) (JO (cW j)) (ZO (Fp j)) (XL (Fp j)) (Ek (Fp j)) (AP (DJ 40 40) (Ff (Wb j)) (Es (Wb j)) (ZO (Wb j)) (XL (Wb j)) (Ek (Wb j)) (MZ (KJ j) (HW a)) (DJ 9 9) (AP (Ff (Kk j)) (Es (Kk j)) (ZO (Kk j)) (XL (Kk j)) (Ek (Kk j)) (MZ (KJ j) (HW a)) (DJ 9 9) (Ff (Nb j)) (AP (Es (Nb j)) (ZO (Nb j)) (XL (Nb j)) (Ek (Nb j)) (aB (YW j) 5) (Zj (aJ 1 5)) aG (mM (YW j)) (Yv (nB (YW j) 40)))))) (zW (λk=>AQ (JG (AT (CR k) (KJ j)) (qZ k (sW j)) (pB k (sW j)) (VI k) (MJ (sW j)) (Tx (cN k (sW j)) (BV (HG a) (HP a) (GX a) (GO a) (HF a) (EZ a) (λl=>jW l a a) AB (ZV (OK (CJ k) (YW j)) (Dl a) (Fe a) (gH a) (eU a) (Ed a) (Dj a) (λl=>HB l (CJ k) (A6 (wZ k l) (BF l (YW j) (Xv (lW (aW j) l)) (AZ (KJ j))) (qD (KX k l) (BF l (YW j) (QX (lW (aW j) l)) (xD (CW (mR (VP a) j) (vJ (AXK j j) 40))))) (KX k l) (BF l (YW j) (Bw (lW (aW j) l)) (CP (mR (VP a) j) (vJ (AZX j) 40))) (BF l (YW j) (Di (lW (aW j) l)) (CW (mR (HW a) j) (Ot (Kk j) 9))) (BF l (YW j) (El (lW (aW j) l)) (CP (mR (HW a) j) (Ot (Nb j) 9))))))))) (Pn (NP a a a a a a a) (C4 k a) (O5 k i) (Ka (M7 a) k k) (Lu a a (Gu k) k a) (CJ k) (Gu k)) (uD k))) (zW (λk=>AQ (JG (AT (CR k) (KJ j)) (BH (Np (GG k)) (cW j)) (BO (Np (GG k)) (cW j)) (VI k) (MJ (Fp j)) (Tx (cN k (Fp j)) (BV (HG a) (HP a) (GX a) (GO a) (HF a) (EZ a) (λl=>jW l a a) AB (ZV (BB (CJ k) (YW j)) (Dl a) (Fe a) (gH a) (eU a) (Ed a) (Dj a) (λl=>HB l (CJ k) (Hy (KX k l) (lW (aW j) l))))))) (Pn (NP a a a a a a a) (C4 k a) (O5 k i) (Ka (M7 a) k k) (Lu a a (Gu k) k a) (CJ k) (Gu k)) (uD k)))))) (ANT (λj=>TD (And (Pn (NP a a a a a a a) (C4 j a) (O5 j i) (Ka (M7 a) j j) (Lu a a (Gu j) j a) (CJ j) (Gu j)) (uD j)) (zW (λk=>EO (JG (AR (CR k) (CR j)) (qZ k (GG j)) (pB k (GG j)) (VI k) (VI j) (Tx (cN k (GG j)) (BV (HG a) (HP a) (GX a) (GO a) (HF a) (EZ a) (λl=>jW l a a) AB (ZV (BB (CJ k) (CJ j)) (Dl a) (Fe a) (gH a) (eU a) (Ed a) (Dj a) (λl=>HB l (CJ k) (Hy (KX k l) (KX j l))))))) (And (Ep (NP a a a a a a a) (DC (CR k) (EZ a)) (Ka (Wz a) k k) (Lu a a (CR k) k a) (CJ k) (CR k)) (uD k)) 100 (CR k) (CR i)))))) (F0 (And (XW (WM a) (GG i)) (LL (ZE (WM a) (GG i)) (MJ (WM a)) (VI i) (Tx (Ky (WM a) (GG i)) (BV (HG a) (HP a) (GX a) (GO a) (HF a) (EZ a) (λj=>jW j a a) AB (ZV (BB (N1 a) (CJ i)) (Dl a) (Fe a) (gH a) (eU a) (Ed a) (Dj a) (λj=>Rf j (AJW a) j (KX i j))))))) (NP a a a a a a a) (AQM (Wz a) 5 (ZX a) (WM a)) (LS (N1 a)) (AZ (N1 a)) (ZX a))))) (Pb (And (NP a a a a a a a) (Wk (AJW a))) (ASQ (AQ (AI (Int.negSucc 0)) (XW (Qk a) (WM a)) (YY (ZE (Qk a) (WM a)) (ABJ (MJ (Qk a)) (WM a)) (Ky (Qk a) (WM a)) (AP AB AK (HG a) (HP a) (GX a) (GO a) (HF a) (ABT a) (NG (fM (EZ a) (Vj a)) AB AK (Dl a) (Fe a) (HW a) (λi=>UV i (HW a)) (Ed a) (Dj a))))) (Wk (AVQ (mE a)))) (ADG (Wk (AVQ (mE a))) (LL (AN (GA (TC a)) (AEA a)) (IS (TC a)) (AGM a) (Ec (BOA (TC a) (AJL a)) (BAB (TC a) (AKF a)) (AN (Sk (TC a)) (ACK a)) (BB (CO (TC a)) (EZ a)) (Og (CO (TC a)) (TC a) (Vj a)) (uI (TC a) 0) (BH (W9 a) (VP a)) (NG (BO (W9 a) (VP a)) (BH (ACF a) (HW a)) (BO (ACF a) (HW a)) (BH (X2 a) (Vv a)) (BO (X2 a) (Vv a)) (Np (Qk a)) (λi=>UV i (Np (Qk a))) (ZO (Qk a)) (XL (Qk a))))))) (Pb (AO (NP a a a a a a a) (AQM (Wz a) 5 (ZX a) (WM a)) (LS (N1 a)) (W3 (N1 a) a)) (zW (λi=>And (JG (On (CR i) (N1 a)) (qZ i (WM a)) (pB i (WM a)) (VI i) (MJ (WM a)) (Tx (cN i (WM a)) (BV (HG a) (HP a) (GX a) (GO a) (HF a) (EZ a) (λj=>jW j a a) AB (ZV (BB (CJ i) (N1 a)) (Dl a) (Fe a) (gH a) (eU a) (Ed a) (Dj a) (λj=>HB j (CJ i) (Hy (KX i j) (lW (AJW a) j))))))) (F0 (NP a a a a a a a) (OB (CR i) (CJ i)) (lE (tS (hd49 (AQT (Wz a) 5 a) (ZX a)) (CR i)) (GG i)) (BFF (shK (CR i) (KN.x i)) (mE a)) (AZ (CJ i)) (ZX a)))) (ANT (λi=>Is (F0 (NP a a a a a a a) (OB (CR i) (CJ i)) (lE (tS (hd49 (AQT (Wz a) 5 a) (ZX a)) (CR i)) (GG i)) (BFF (shK (CR i) (KN.x i)) (mE a)) (AZ (CJ i)) (ZX a)) (Lc (CR i)) (CV (AI (ABS i)) (AJC (GG i) (VI i)) (AO (FV (nS i i) (CJ i)) (OB (K6 i i) (CJ i)) (CL (CR i) (CJ i)) (BRD (OB (Up i) (CJ i)) (CL (CR i) (CJ i)) (FV (nS i i) (CJ i)) (FI (K6 i i) (CJ i)))) (zW (λj=>NT (JG (On (CR j) (CR i)) (qZ j (AHW i (ABS i))) (pB j (AHW i (ABS i))) (VI j) (MJ (AHW i (ABS i))) (Tx (cN j (AHW i (ABS i))) (BV (HG a) (HP a) (GX a) (GO a) (HF a) (EZ a) (λk=>jW k a a) AB (ZV (BB (CJ j) (CJ i)) (Dl a) (Fe a) (gH a) (eU a) (Ed a) (Dj a) (λk=>HB k (CJ j) (A6 (wZ j k) (OQ k (nS i i) (wZ i (Up i)) (ACA k (Up i) (wZ i (K6 i i)) (wZ i k))) (qD (KX j k) (OQ k (nS i i) (QX (KX i (Up i))) (ACA k (Up i) (QX (KX i (K6 i i))) (QX (KX i k))))) (KX j k) (OQ k (nS i i) (Bw (KX i (Up i))) (ACA k (Up i) (Bw (KX i (K6 i i))) (Bw (KX i k)))) (OQ k (nS i i) (Di (KX i (Up i))) (ACA k (Up i) (Di (KX i (K6 i i))) (Di (KX i k)))) (OQ k (nS i i) (El (KX i (Up i))) (ACA k (Up i) (El (KX i (K6 i i))) (El (KX i k)))))))))) (F0 (NP a a a a a a a) (OB (CR j) (CJ j)) (lE (tS (hd49 (AQT (Wz a) 5 a) (ZX a)) (CR j)) (GG j)) (BFF (shK (CR j) (KN.x j)) (mE a)) (AZ (CJ j)) (ZX a)) (CR j) (CR i)))) (And (AN (GA (TC a)) (AEA a)) (LL (AN (IS (TC a)) (AGM a)) (Xr (TC a)) (AJL a) (BU (BAB (TC a) (AKF a)) (AN (Sk (TC a)) (ACK a)) (BB (CO (TC a)) (EZ a)) (Og (CO (TC a)) (TC a) (Vj a)) (uI (TC a) (CJ i)) (LU (CJ i)) (λj=>bA j (TC a) (wZ i (AJ j)) (LG (TC a) j) (KX i (AJ j))) (BH (W9 a) (VP a)) (BU (BO (W9 a) (VP a)) (BH (ACF a) (HW a)) (BO (ACF a) (HW a)) (BH (X2 a) (Vv a)) (BO (X2 a) (Vv a)) (XW (Qk a) (GG i)) (λj=>Zs j (Np (Qk a)) (Np (GG i))) (AN (MJ (Qk a)) (VI i)) (Ky (Qk a) (GG i)))))))))))))))):=by kernel_rfl
set_option maxHeartbeats 4000000 in
theorem CQA(a:MkIQ)(h:wD a)(hb:a.b=true):BUI a:=by
 obtain⟨b1,b2,b3,b4,b5,b6⟩:=AXV h
 obtain⟨n1,n2,n3⟩:=CAI h
 have m2:=h.2.2
 rw[CCZ]<;> dsimp only[go_sem];simp only[P3,CU,CJY]
 refine⟨⟨⟨rfl,rfl,h.1.used.1,rfl,rfl,b1.used.1,rfl,b2.used.1,rfl,b3.used.1⟩,default,⟨rfl,λ_ _=>rfl,rfl,rfl,rfl,rfl,rfl,rfl⟩,b4⟩,λ_=>⟨⟨⟨rfl,b4.used.1⟩,default,⟨rfl,λ_ _=>rfl,rfl,rfl,rfl⟩,b5⟩,λ_=>⟨⟨⟨rfl,b5.used.1⟩,default,⟨rfl,rfl,λ_ _=>rfl,rfl,rfl⟩,b6⟩,λ_=>⟨⟨⟨rfl,b6.used.1⟩,⟨⟨mN a,mS0 a⟩,⟨rfl,rfl,n1,rfl,λ_ _=>rfl,rfl,rfl⟩,⟨rfl,n3,?_,?_,rfl,rfl,.inl rfl⟩,n2,rfl,rfl⟩,?_,?_,?_⟩,?_⟩⟩⟩⟩
 ·exact (MV b6 (by omega) 1 a.m).mono (by show 6+1<=7+7*(a.m-(mN a:Int));omega)
 ·show (((0:Nat):Int))+(mN a:Int)<=a.m;omega
 ·rintro⟨k,s,pl,tm,ms,t,st,z⟩ ⟨⟨i1,i2,i3,i4,i5,i6,i7⟩,j1,j2,j3⟩
  dsimp only at i1 i2 i3 i4 i5 i6 i7 j1 j2 j3 ⊢
  subst j2 j3
  obtain rfl:t=[]:=List.length_eq_zero_iff.1 i5
  obtain rfl:st=[]:=List.length_eq_zero_iff.1 i6
  refine⟨λ_=>⟨⟨⟨k,s,pl,tm,[],[],[],[]⟩,⟨rfl,rfl,rfl,rfl,λ_ _=>rfl,rfl,rfl⟩,⟨?_,⟨j1,i2⟩,i3.mono (by show 7+7*(a.m-(k:Int))<=11+7*(a.m-(k:Int));omega),i4,rfl,rfl,Nat.le_refl _⟩,rfl,rfl⟩,?_⟩,λhk=>absurd (show (k:Int)>0 by omega) hk⟩
  ·rw[<-i1,BNH j1,go_0 rfl]
  ·rintro⟨k,s,pl,tm,ms,t,st,z⟩ ⟨⟨q1,q2,q3,q4,q5,q6,q7⟩,p1,p2⟩
   dsimp only at q1 q2 q3 q4 q5 q6 q7 p1 p2 ⊢
   subst p1 p2
   obtain rfl:t=[]:=List.length_eq_zero_iff.1 q5
   obtain rfl:st=[]:=List.length_eq_zero_iff.1 q6
   have s1:=q3.next (by omega) 60
   refine⟨⟨rfl,q3.used.1⟩,⟨by decide,by decide,s1.used.1,by decide⟩,⟨k-1,addM a ⟨s,pl,tm,[],[],[],[]⟩⟩,⟨rfl,rfl,?_,rfl,λ_ _=>rfl,rfl,rfl,rfl,rfl,rfl,rfl,λi hi=>?_,rfl,λi hi=>?_,rfl,λi hi=>?_⟩,⟨⟨q1,by show ((k-1:Nat):Int)<=_;omega,(MV s1 (by omega) _ _).mono ?_,?_,rfl,rfl,.inl rfl⟩,Nat.one_pos,rfl⟩,by show k-1+20<100;omega⟩
   ·rw[ER (by omega) (by omega)];show ((k-1:Nat):Int)=_;omega
   ·have hi:i<1:=hi
    obtain rfl:i=0:=by omega
    exact⟨rfl,rfl⟩
   ·have hi:i<1:=hi
    obtain rfl:i=0:=by omega
    rfl
   ·have hi:i<1:=hi
    obtain rfl:i=0:=by omega
    rfl
   ·show 11+7*(a.m-(k:Int))+1+1<=7+7*(a.m-((k-1:Nat):Int));omega
   ·show ((1:Nat):Int)+((k-1:Nat):Int)<=a.m;omega
 ·rintro⟨k,x⟩ ⟨⟨i1,i2,i3,i4,i5,i6,i7⟩,j1,j2⟩
  dsimp only at i1 i2 i3 i4 i5 i6 i7 j1 j2 ⊢
  have s1:=MV i3 (by omega) 1 30
  refine⟨λhk=>⟨⟨λhm=>⟨⟨rfl,rfl,i3.used.1⟩,⟨s1.used.1,⟨k,advA a x⟩,⟨rfl,rfl,rfl,rfl,λ_ _=>rfl,rfl,rfl,rfl,rfl,rfl,rfl,λ_ _=>⟨rfl,rfl⟩,rfl,λ_ _=>rfl,rfl,λ_ _=>rfl⟩,⟨?_,⟨by show 0<k;omega,i2⟩,(MV s1 (by omega) _ _).mono ?_,i4,i5,i6,?_⟩,by show k+19<k+20;omega,j1,j2⟩,?_⟩,λhm=>absurd (show (x.ms.length:Int)>0 by omega) hm⟩,?_,?_⟩,λhk=>?_⟩
  ·exact (show _=R4 a k x by rw[BNH (k:=k) (x:=x) (by omega),go_1 j1]).trans i1
  ·show 7+7*(a.m-(k:Int))+1+1<=9+7*(a.m-(k:Int));omega
  ·show x.z.length<x.ms.length;rw[j2];exact j1
  ·rintro⟨k2,x2⟩ ⟨⟨q1,q2,q3,q4,q5,q6,q7⟩,p0,p1,p2⟩
   dsimp only at q1 q2 q3 q4 q5 q6 q7 p0 p1 p2 ⊢
   have t1:=q3.next (by omega) 5
   have t2:=t1.next (by omega) 400
   refine⟨⟨rfl,q3.used.1⟩,λhc=>⟨⟨(λh=>by cases h),Nat.one_pos,Nat.one_pos,by decide,by decide⟩,⟨rfl,t1.used.1⟩,⟨k2,⟨BL (BL x2.s 5) 400,x2.pl,GM (x2.tm+AY (BL x2.s 5) 400),x2.ms,x2.t,x2.st,[GM ((x2.ms.length:Int)-1)]⟩⟩,⟨rfl,rfl,rfl,rfl,λ_ _=>rfl,rfl,rfl,rfl,rfl,rfl,rfl,rfl,λ_ _=>⟨rfl,rfl⟩,rfl,λ_ _=>rfl,rfl,λ_ _=>rfl,rfl,λi hi=>?_⟩,⟨?_,q2,t2.mono ?_,q4,q5,q6,?_⟩,?_,p1,Nat.one_pos⟩,λhc=>⟨⟨k2,⟨BL x2.s 5,x2.pl,x2.tm,x2.ms,x2.t,x2.st,x2.z⟩⟩,⟨rfl,rfl,rfl,rfl,λ_ _=>rfl,rfl,rfl,rfl,rfl,rfl,rfl,λ_ _=>⟨rfl,rfl⟩,rfl,λ_ _=>rfl,rfl,λ_ _=>rfl⟩,⟨?_,q2,t1.mono ?_,q4,q5,q6,Nat.le_of_lt q7⟩,p0,p1,p2⟩⟩
   ·have hi:i<1:=hi
    obtain rfl:i=0:=by omega
    rfl
   ·have hc:(AY x2.s 5==0)=true:=hc
    have ez:S0 a x2=⟨BL (BL x2.s 5) 400,x2.pl,GM (x2.tm+AY (BL x2.s 5) 400),x2.ms,x2.t,x2.st,[GM ((x2.ms.length:Int)-1)]⟩:=by
     unfold S0;rw[hb,hc,p2];rfl
    rw[ez] at q1;exact q1
   ·show 9+7*(a.m-(k2:Int))+1+1<=11+7*(a.m-(k2:Int));omega
   ·show 1<=x2.ms.length;exact p1
   ·show k2<=k+20;omega
   ·have hc:(AY x2.s 5==0)=false:=hc
    have ez:S0 a x2=⟨BL x2.s 5,x2.pl,x2.tm,x2.ms,x2.t,x2.st,x2.z⟩:=by
     unfold S0;rw[hb,hc];rfl
    rw[ez] at q1;exact q1
   ·show 9+7*(a.m-(k2:Int))+1<=11+7*(a.m-(k2:Int));omega
  ·rintro⟨k2,x2⟩ ⟨⟨q1,q2,q3,q4,q5,q6,q7⟩,p0,p1,p2⟩
   dsimp only at q1 q2 q3 q4 q5 q6 q7 p0 p1 p2 ⊢
   have s2:=q3.next (by omega) 60
   refine⟨⟨rfl,q3.used.1⟩,⟨⟨Nat.one_pos,(λh=>by cases h),by omega,by omega⟩,⟨Nat.one_pos,(λh=>by cases h),by omega,by omega⟩,s2.used.1,Nat.one_pos,(λh=>by cases h),by omega,by omega⟩,⟨k2-1,addM a x2⟩,⟨rfl,rfl,?_,rfl,λ_ _=>rfl,rfl,rfl,?_,?_,?_,?_,λi hi=>?_,?_,λi hi=>?_,?_,λi hi=>?_⟩,⟨⟨q1,by show ((k2-1:Nat):Int)<=_;omega,(MV s2 (by omega) _ _).mono ?_,?_,?_,?_,.inl p2⟩,?_,p2⟩,by show k2-1+20<k+20;omega⟩
   ·rw[ER (by omega) (by omega)];show ((k2-1:Nat):Int)=_;omega
   ·show (x2.ms ++ [_]).length=_;simp
   ·show (x2.t ++ [_]).length=_;simp
   ·show (x2.st ++ [_]).length=_;simp
   ·show (x2.ms ++ [_]).length=_;simp
   ·have hi:i<(x2.ms ++ [_]).length:=hi
    rw[List.length_append] at hi
    show (gD (x2.ms ++ [_]) i).pl=_/\(gD (x2.ms ++ [_]) i).ht=_
    rw[Nf _ _ _ (by simpa using hi)]
    cases decide (i<x2.ms.length)<;>exact⟨rfl,rfl⟩
   ·show (x2.t ++ [_]).length=_;simp
   ·have hi:i<(x2.t ++ [x2.tm]).length:=hi
    rw[List.length_append] at hi
    show gD (x2.t ++ [_]) i=_
    rw[Nf _ _ _ (by simpa using hi)]
   ·show (x2.st ++ [_]).length=_;simp
   ·have hi:i<(x2.st ++ [(0:Int)]).length:=by have:=hi;simpa[addM] using this
    rw[List.length_append] at hi
    show gD (x2.st ++ [_]) i=_
    rw[Nf _ _ _ (by simpa using hi)];rfl
   ·show 11+7*(a.m-(k2:Int))+1+1<=7+7*(a.m-((k2-1:Nat):Int));omega
   ·show (((x2.ms ++ [_]).length:Nat):Int)+((k2-1:Nat):Int)<=a.m
    rw[List.length_append];simp;omega
   ·show (x2.t ++ [_]).length=(x2.ms ++ [_]).length;simp[q5]
   ·show (x2.st ++ [_]).length=(x2.ms ++ [_]).length;simp[q6]
   ·show 0<(x2.ms ++ [_]).length;simp
  ·rintro⟨k2,x2⟩ ⟨⟨q1,q2,q3,q4,q5,q6,q7⟩,p0,p1,p2⟩
   dsimp only at q1 q2 q3 q4 q5 q6 q7 p0 p1 p2 ⊢
   have s2:=q3.next (by omega) 60
   refine⟨⟨rfl,q3.used.1⟩,⟨⟨Nat.one_pos,(λh=>by cases h),by omega,by omega⟩,⟨Nat.one_pos,(λh=>by cases h),by omega,by omega⟩,s2.used.1,Nat.one_pos,(λh=>by cases h),by omega,by omega⟩,⟨k2-1,addM a x2⟩,⟨rfl,rfl,?_,rfl,λ_ _=>rfl,rfl,rfl,?_,?_,?_,rfl,?_,λi hi=>?_,?_,λi hi=>?_,?_,λi hi=>?_,rfl,λ_ _=>rfl⟩,⟨⟨q1,by show ((k2-1:Nat):Int)<=_;omega,(MV s2 (by omega) _ _).mono ?_,?_,?_,?_,.inr ?_⟩,?_,p2⟩,by show k2-1<k+20;omega⟩
   ·rw[ER (by omega) (by omega)];show ((k2-1:Nat):Int)=_;omega
   ·show (x2.ms ++ [_]).length=_;simp
   ·show (x2.t ++ [_]).length=_;simp
   ·show (x2.st ++ [_]).length=_;simp
   ·show (x2.ms ++ [_]).length=_;simp
   ·have hi:i<(x2.ms ++ [_]).length:=hi
    rw[List.length_append] at hi
    show (gD (x2.ms ++ [_]) i).pl=_/\(gD (x2.ms ++ [_]) i).ht=_
    rw[Nf _ _ _ (by simpa using hi)]
    cases decide (i<x2.ms.length)<;>exact⟨rfl,rfl⟩
   ·show (x2.t ++ [_]).length=_;simp
   ·have hi:i<(x2.t ++ [x2.tm]).length:=hi
    rw[List.length_append] at hi
    show gD (x2.t ++ [_]) i=_
    rw[Nf _ _ _ (by simpa using hi)]
   ·show (x2.st ++ [_]).length=_;simp
   ·have hi:i<(x2.st ++ [(0:Int)]).length:=by have:=hi;simpa[addM] using this
    rw[List.length_append] at hi
    show gD (x2.st ++ [_]) i=_
    rw[Nf _ _ _ (by simpa using hi)];rfl
   ·show 11+7*(a.m-(k2:Int))+1+1<=7+7*(a.m-((k2-1:Nat):Int));omega
   ·show (((x2.ms ++ [_]).length:Nat):Int)+((k2-1:Nat):Int)<=a.m
    rw[List.length_append];simp;omega
   ·show (x2.t ++ [_]).length=(x2.ms ++ [_]).length;simp[q5]
   ·show (x2.st ++ [_]).length=(x2.ms ++ [_]).length;simp[q6]
   ·show x2.z.length<(x2.ms ++ [_]).length;simp;omega
   ·show 0<(x2.ms ++ [_]).length;simp
  ·obtain rfl:k=0:=by omega
   have e:x=mS a:=i1
   subst e
   exact⟨default,⟨rfl,λ_ _=>rfl,rfl,rfl,rfl,Nat.le_refl _,λ_ _=>⟨rfl,rfl⟩,rfl,Nat.le_refl _,λ_ _=>rfl,rfl,Nat.le_refl _,λ_ _=>rfl,by rw[j2];rfl⟩,i1,i2,i3,i4,i5,i6,i7⟩
 ·rintro⟨k,x⟩ ⟨⟨i1,i2,i3,i4,i5,i6,i7⟩,j1,j2⟩
  dsimp only at i1 i2 i3 i4 i5 i6 i7 j1 j2 ⊢
  have s1:=MV i3 (by omega) 1 30
  have i8:x.z.length<x.ms.length:=i7.elim (λe=>by rw[e] at j2;exact absurd j2 (Nat.lt_irrefl 0)) id
  refine⟨λhk=>⟨⟨λhm=>⟨⟨rfl,rfl,i3.used.1⟩,⟨s1.used.1,⟨k,advA a x⟩,⟨rfl,rfl,rfl,rfl,λ_ _=>rfl,rfl,rfl,rfl,rfl,rfl,rfl,rfl,λ_ _=>⟨rfl,rfl⟩,rfl,λ_ _=>rfl,rfl,λ_ _=>rfl,rfl,λ_ _=>rfl⟩,⟨?_,⟨by show 0<k;omega,i2⟩,(MV s1 (by omega) _ _).mono ?_,i4,i5,i6,i8⟩,Nat.le_refl k,j1,j2⟩,?_⟩,λhm=>absurd (show (x.ms.length:Int)>0 by omega) hm⟩,?_⟩,λhk=>?_⟩
  ·exact (show _=R4 a k x by rw[BNH (k:=k) (x:=x) (by omega),go_1 j1]).trans i1
  ·show 7+7*(a.m-(k:Int))+1+1<=9+7*(a.m-(k:Int));omega
  ·rintro⟨k2,x2⟩ ⟨⟨q1,q2,q3,q4,q5,q6,q7⟩,p0,p1,p2⟩
   dsimp only at q1 q2 q3 q4 q5 q6 q7 p0 p1 p2 ⊢
   have t1:=q3.next (by omega) 5
   have t2:=t1.next (by omega) 400
   refine⟨⟨rfl,q3.used.1⟩,λhc=>⟨⟨Nat.one_pos,(λh=>by cases h),by omega,by omega⟩,⟨rfl,t1.used.1⟩,⟨k2,⟨BL (BL x2.s 5) 400,x2.pl,GM (x2.tm+AY (BL x2.s 5) 400),x2.ms,x2.t,x2.st,x2.z ++ [GM ((x2.ms.length:Int)-1)]⟩⟩,⟨rfl,rfl,rfl,rfl,λ_ _=>rfl,rfl,rfl,rfl,rfl,rfl,?_,rfl,λ_ _=>⟨rfl,rfl⟩,rfl,λ_ _=>rfl,rfl,λ_ _=>rfl,?_,λi hi=>?_⟩,⟨?_,q2,t2.mono ?_,q4,q5,q6,?_⟩,?_,p1,?_⟩,λhc=>⟨⟨k2,⟨BL x2.s 5,x2.pl,x2.tm,x2.ms,x2.t,x2.st,x2.z⟩⟩,⟨rfl,rfl,rfl,rfl,λ_ _=>rfl,rfl,rfl,rfl,rfl,rfl,rfl,rfl,λ_ _=>⟨rfl,rfl⟩,rfl,λ_ _=>rfl,rfl,λ_ _=>rfl,rfl,λ_ _=>rfl⟩,⟨?_,q2,t1.mono ?_,q4,q5,q6,Nat.le_of_lt q7⟩,p0,p1,p2⟩⟩
   ·show (x2.z ++ [_]).length=_;simp
   ·show (x2.z ++ [_]).length=_;simp
   ·have hi:i<(x2.z ++ [(0:Int)]).length:=by have:=hi;simpa using this
    rw[List.length_append] at hi
    show gD (x2.z ++ [_]) i=_
    rw[Nf _ _ _ (by simpa using hi)];rfl
   ·have hc:(AY x2.s 5==0)=true:=hc
    have ez:S0 a x2=⟨BL (BL x2.s 5) 400,x2.pl,GM (x2.tm+AY (BL x2.s 5) 400),x2.ms,x2.t,x2.st,x2.z ++ [GM ((x2.ms.length:Int)-1)]⟩:=by
     unfold S0;rw[hb,hc];rfl
    rw[ez] at q1;exact q1
   ·show 9+7*(a.m-(k2:Int))+1+1<=11+7*(a.m-(k2:Int));omega
   ·show (x2.z ++ [_]).length<=x2.ms.length;simp;omega
   ·show k2<=k;omega
   ·show 0<(x2.z ++ [_]).length;simp
   ·have hc:(AY x2.s 5==0)=false:=hc
    have ez:S0 a x2=⟨BL x2.s 5,x2.pl,x2.tm,x2.ms,x2.t,x2.st,x2.z⟩:=by
     unfold S0;rw[hb,hc];rfl
    rw[ez] at q1;exact q1
   ·show 9+7*(a.m-(k2:Int))+1<=11+7*(a.m-(k2:Int));omega
  ·rintro⟨k2,x2⟩ ⟨⟨q1,q2,q3,q4,q5,q6,q7⟩,p0,p1,p2⟩
   dsimp only at q1 q2 q3 q4 q5 q6 q7 p0 p1 p2 ⊢
   have s2:=q3.next (by omega) 60
   refine⟨⟨rfl,q3.used.1⟩,⟨⟨Nat.one_pos,(λh=>by cases h),by omega,by omega⟩,⟨Nat.one_pos,(λh=>by cases h),by omega,by omega⟩,s2.used.1,Nat.one_pos,(λh=>by cases h),by omega,by omega⟩,⟨k2-1,addM a x2⟩,⟨rfl,rfl,?_,rfl,λ_ _=>rfl,rfl,rfl,?_,?_,?_,rfl,?_,λi hi=>?_,?_,λi hi=>?_,?_,λi hi=>?_,rfl,λ_ _=>rfl⟩,⟨⟨q1,by show ((k2-1:Nat):Int)<=_;omega,(MV s2 (by omega) _ _).mono ?_,?_,?_,?_,.inr ?_⟩,?_,p2⟩,by show k2-1<k;omega⟩
   ·rw[ER (by omega) (by omega)];show ((k2-1:Nat):Int)=_;omega
   ·show (x2.ms ++ [_]).length=_;simp
   ·show (x2.t ++ [_]).length=_;simp
   ·show (x2.st ++ [_]).length=_;simp
   ·show (x2.ms ++ [_]).length=_;simp
   ·have hi:i<(x2.ms ++ [_]).length:=hi
    rw[List.length_append] at hi
    show (gD (x2.ms ++ [_]) i).pl=_/\(gD (x2.ms ++ [_]) i).ht=_
    rw[Nf _ _ _ (by simpa using hi)]
    cases decide (i<x2.ms.length)<;>exact⟨rfl,rfl⟩
   ·show (x2.t ++ [_]).length=_;simp
   ·have hi:i<(x2.t ++ [x2.tm]).length:=hi
    rw[List.length_append] at hi
    show gD (x2.t ++ [_]) i=_
    rw[Nf _ _ _ (by simpa using hi)]
   ·show (x2.st ++ [_]).length=_;simp
   ·have hi:i<(x2.st ++ [(0:Int)]).length:=by have:=hi;simpa[addM] using this
    rw[List.length_append] at hi
    show gD (x2.st ++ [_]) i=_
    rw[Nf _ _ _ (by simpa using hi)];rfl
   ·show 11+7*(a.m-(k2:Int))+1+1<=7+7*(a.m-((k2-1:Nat):Int));omega
   ·show (((x2.ms ++ [_]).length:Nat):Int)+((k2-1:Nat):Int)<=a.m
    rw[List.length_append];simp;omega
   ·show (x2.t ++ [_]).length=(x2.ms ++ [_]).length;simp[q5]
   ·show (x2.st ++ [_]).length=(x2.ms ++ [_]).length;simp[q6]
   ·show x2.z.length<(x2.ms ++ [_]).length;simp;omega
   ·show 0<(x2.ms ++ [_]).length;simp
  ·obtain rfl:k=0:=by omega
   have e:x=mS a:=i1
   subst e
   exact⟨default,⟨rfl,λ_ _=>rfl,rfl,rfl,rfl,Nat.le_refl _,λ_ _=>⟨rfl,rfl⟩,rfl,Nat.le_refl _,λ_ _=>rfl,rfl,Nat.le_refl _,λ_ _=>rfl,rfl,Nat.le_refl _,λ_ _=>rfl⟩,i1,i2,i3,i4,i5,i6,i7⟩
 ·intro hF'
  obtain⟨f1,f2,f3,f4,f5,f6,f7⟩:=hF'
  have hF':fin6 a:=⟨f1,f2,f3,f4,f5,f6,f7⟩
  have fm:((mS a).ms.length:Int)<=a.m:=by omega
  refine⟨⟨⟨⟨0,⟨(mS a).s,[]⟩⟩,⟨rfl,rfl,λ_ _=>rfl,rfl,rfl⟩,⟨hF',Nat.zero_le _,f3.mono (by show 7+7*(a.m-((0:Nat):Int))<=7+7*a.m+5*((0:Nat):Int);omega),rfl,Nat.le_refl _⟩,rfl⟩,?_,?_⟩,?_,?_⟩
  ·rintro⟨i,x⟩ ⟨⟨_,g1,g2,g3,g4⟩,g5⟩
   dsimp only at g1 g2 g3 g4 g5 ⊢
   have s1:=g2.next (by omega) 2
   refine⟨λhc=>?_,λhc=>?_⟩
   ·have hi:=n_lt hc
    refine⟨⟨⟨⟨rfl,g2.used.1⟩,⟨i,⟨BL x.s 2,x.ns⟩,AY x.s 2==0⟩,⟨rfl,rfl,rfl,λ_ _=>rfl,rfl,rfl⟩,⟨hF',⟨hi,rfl⟩,s1.mono (by show 7+7*a.m+5*(i:Int)+1<=8+7*a.m+5*(i:Int);omega),(CUE hi).symm.trans g3,g4⟩,g5⟩,?_⟩,?_,?_⟩
    ·rintro⟨i2,x2,b2⟩ ⟨⟨_,⟨q1,q2⟩,q3,q4,q5⟩,q6⟩
     dsimp only at q1 q2 q3 q4 q5 q6 ⊢
     have t1:=q3.next (by omega) 40
     have t2:=t1.next (by omega) 40
     have t3:=t2.next (by omega) 9
     have t4:=t3.next (by omega) 9
     refine⟨λhb2=>?_,λhb2=>?_⟩
     ·subst hb2
      refine⟨⟨⟨by omega,by omega⟩,rfl,q3.used.1,⟨by omega,by omega⟩,rfl,t1.used.1,⟨by omega,by omega⟩,rfl,t2.used.1,⟨by omega,by omega⟩,rfl,t3.used.1,by decide⟩,⟨i2,⟨nS5 x2.s,x2.ns ++ [mkNt a x2.s i2]⟩⟩,⟨rfl,rfl,λ_ _=>rfl,rfl,rfl,by rw[q6];rfl,by rw[q6];rfl,λj hj=>?_⟩,⟨hF',⟨q1,q2⟩,t4.mono (by show 8+7*a.m+5*(i2:Int)+1+1+1+1<=12+7*a.m+5*(i2:Int);omega),q4,?_⟩,?_⟩
      ·rw[q6] at hj ⊢
       have hj:j<1:=hj
       obtain rfl:j=0:=by omega
       exact⟨rfl,rfl,rfl,rfl,rfl⟩
      ·show (x2.ns ++ [_]).length<=i2+1;rw[q6];simp
      ·show 0<(x2.ns ++ [_]).length;simp
     ·subst hb2
      exact⟨⟨i2,x2⟩,⟨rfl,rfl,λ_ _=>rfl,rfl,rfl⟩,⟨hF',⟨q1,q2⟩,q3.mono (by show 8+7*a.m+5*(i2:Int)<=12+7*a.m+5*(i2:Int);omega),q4,Nat.le_succ_of_le q5⟩,q6⟩
    ·rintro⟨i2,x2⟩ ⟨⟨_,⟨q1,q2⟩,q3,q4,q5⟩,q6⟩
     dsimp only at q1 q2 q3 q4 q5 q6 ⊢
     exact⟨⟨i2+1,x2⟩,⟨(BJ (by omega)).symm,rfl,λ_ _=>rfl,rfl,rfl⟩,⟨⟨hF',by show i2+1<=_;omega,q3.mono (by show 12+7*a.m+5*(i2:Int)<=7+7*a.m+5*((i2+1:Nat):Int);omega),q4,q5⟩,q6⟩,by show 100-(i2+1)<100-i;omega⟩
    ·rintro⟨i2,x2⟩ ⟨⟨_,⟨q1,q2⟩,q3,q4,q5⟩,q6⟩
     dsimp only at q1 q2 q3 q4 q5 q6 ⊢
     exact⟨⟨i2+1,x2⟩,⟨(BJ (by omega)).symm,rfl,λ_ _=>rfl,rfl,rfl,rfl,rfl,λ_ _=>⟨rfl,rfl,rfl,rfl,rfl⟩⟩,⟨⟨hF',by show i2+1<=_;omega,q3.mono (by show 12+7*a.m+5*(i2:Int)<=7+7*a.m+5*((i2+1:Nat):Int);omega),q4,q5⟩,q6⟩,by show 100-(i2+1)<100-i;omega⟩
   ·have hi:=n_ge (by decide) hc
    obtain rfl:i=(mS a).ms.length:=by omega
    rw[Nat.sub_self] at g3
    have e:x=mNs a:=g3
    subst e
    exact⟨default,⟨rfl,λ_ _=>rfl,rfl,rfl⟩,hF',g5⟩
  ·rintro⟨i,x⟩ ⟨⟨_,g1,g2,g3,g4⟩,g5⟩
   dsimp only at g1 g2 g3 g4 g5 ⊢
   have s1:=g2.next (by omega) 2
   refine⟨λhc=>?_,λhc=>?_⟩
   ·have hi:=n_lt hc
    refine⟨⟨⟨⟨rfl,g2.used.1⟩,⟨i,⟨BL x.s 2,x.ns⟩,AY x.s 2==0⟩,⟨rfl,rfl,rfl,λ_ _=>rfl,rfl,rfl,rfl,rfl,λ_ _=>⟨rfl,rfl,rfl,rfl,rfl⟩⟩,⟨hF',⟨hi,rfl⟩,s1.mono (by show 7+7*a.m+5*(i:Int)+1<=8+7*a.m+5*(i:Int);omega),(CUE hi).symm.trans g3,g4⟩,g5⟩,?_⟩,?_⟩
    ·rintro⟨i2,x2,b2⟩ ⟨⟨_,⟨q1,q2⟩,q3,q4,q5⟩,q6⟩
     dsimp only at q1 q2 q3 q4 q5 q6 ⊢
     have t1:=q3.next (by omega) 40
     have t2:=t1.next (by omega) 40
     have t3:=t2.next (by omega) 9
     have t4:=t3.next (by omega) 9
     refine⟨λhb2=>?_,λhb2=>?_⟩
     ·subst hb2
      refine⟨⟨⟨by omega,by omega⟩,rfl,q3.used.1,⟨by omega,by omega⟩,rfl,t1.used.1,⟨by omega,by omega⟩,rfl,t2.used.1,⟨by omega,by omega⟩,rfl,t3.used.1,Nat.one_pos,(λh=>by cases h),by omega,by omega⟩,⟨i2,⟨nS5 x2.s,x2.ns ++ [mkNt a x2.s i2]⟩⟩,⟨rfl,rfl,λ_ _=>rfl,rfl,rfl,by simp,by simp,λj hj=>?_⟩,⟨hF',⟨q1,q2⟩,t4.mono (by show 8+7*a.m+5*(i2:Int)+1+1+1+1<=12+7*a.m+5*(i2:Int);omega),q4,?_⟩,?_⟩
      ·have hj:j<(x2.ns ++ [mkNt a x2.s i2]).length:=hj
       rw[List.length_append] at hj
       show (gD (x2.ns ++ [_]) j).mi=_/\(gD (x2.ns ++ [_]) j).t.lo=_/\(gD (x2.ns ++ [_]) j).t.hi=_/\(gD (x2.ns ++ [_]) j).s.lo=_/\(gD (x2.ns ++ [_]) j).s.hi=_
       rw[Nf _ _ _ (by simpa using hj)]
       cases decide (j<x2.ns.length)<;>exact⟨rfl,rfl,rfl,rfl,rfl⟩
      ·show (x2.ns ++ [_]).length<=i2+1;simp;omega
      ·show 0<(x2.ns ++ [_]).length;simp
     ·subst hb2
      exact⟨⟨i2,x2⟩,⟨rfl,rfl,λ_ _=>rfl,rfl,rfl,rfl,rfl,λ_ _=>⟨rfl,rfl,rfl,rfl,rfl⟩⟩,⟨hF',⟨q1,q2⟩,q3.mono (by show 8+7*a.m+5*(i2:Int)<=12+7*a.m+5*(i2:Int);omega),q4,Nat.le_succ_of_le q5⟩,q6⟩
    ·rintro⟨i2,x2⟩ ⟨⟨_,⟨q1,q2⟩,q3,q4,q5⟩,q6⟩
     dsimp only at q1 q2 q3 q4 q5 q6 ⊢
     exact⟨⟨i2+1,x2⟩,⟨(BJ (by omega)).symm,rfl,λ_ _=>rfl,rfl,rfl,rfl,rfl,λ_ _=>⟨rfl,rfl,rfl,rfl,rfl⟩⟩,⟨⟨hF',by show i2+1<=_;omega,q3.mono (by show 12+7*a.m+5*(i2:Int)<=7+7*a.m+5*((i2+1:Nat):Int);omega),q4,q5⟩,q6⟩,by show 100-(i2+1)<100-i;omega⟩
   ·have hi:=n_ge (by omega) hc
    obtain rfl:i=(mS a).ms.length:=by omega
    rw[Nat.sub_self] at g3
    have e:x=mNs a:=g3
    subst e
    exact⟨default,⟨rfl,λ_ _=>rfl,rfl,rfl,rfl,rfl,λ_ _=>⟨rfl,rfl,rfl,rfl,rfl⟩⟩,hF',g2.mono (by omega),g5,by omega⟩
  ·rintro⟨_,e0⟩
   have em:mE a=mNs a:=by unfold mE;rw[e0];rfl
   have en:(mE a).ns=[]:=by rw[em];exact e0
   have el:(TC a).ns.length=0:=by show (mE a).ns.length=0;rw[en];rfl
   refine⟨⟨default,⟨by rw[em],λ_ _=>by rw[em],by rw[em],by rw[em]⟩,en⟩,λ_=>⟨rfl,rfl,rfl,rfl,rfl,rfl,λ_ _=>⟨rfl,rfl⟩,el,el,rfl,λ_ _=>rfl,rfl,λ_ _=>rfl,rfl,λ_ _=>rfl⟩⟩
  ·rintro⟨_,e1,e2,e3⟩
   refine⟨⟨⟨(mNs a).ns.length-1,mNs a⟩,⟨?_,rfl,λ_ _=>rfl,rfl,rfl,rfl,rfl,λ_ _=>⟨rfl,rfl,rfl,rfl,rfl⟩⟩,hF',by show (mNs a).ns.length-1<(mNs a).ns.length;omega,e1.mono ?_,rfl,e3⟩,?_⟩
   ·rw[ER (by omega) (by omega)];show (((mNs a).ns.length-1:Nat):Int)=_;omega
   ·show 7+7*a.m+5*a.m<=7+7*a.m+5*a.m+a.m-(((mNs a).ns.length-1:Nat):Int);omega
   ·rintro⟨i,x⟩ ⟨_,r1,r2,r3,r4⟩
    dsimp only at r1 r2 r3 r4 ⊢
    refine⟨λhi=>?_,λhi=>?_⟩
    ·obtain⟨j,rfl⟩:∃j,i=j+1:=⟨i-1,by omega⟩
     have ew:IntKind.i64.wrap (((j+1:Nat):Int)+1)=(j:Int)+2:=by rw[ER (by omega) (by omega)];omega
     have ew2:IntKind.i64.wrap (((j+1:Nat):Int)-1)=(j:Int):=by rw[ER (by omega) (by omega)];omega
     have hv:=PY r2 (by omega) ((j:Int)+2)
     have hv2:=hv.2 (by omega)
     rw[ew,ew2]
     have hk:(AY x.s ((j:Int)+2)).toNat<x.ns.length:=by omega
     refine⟨r2.used.1,⟨⟨hv.1,by omega⟩,hk,⟨by omega,by omega⟩,r1,⟨by omega,by omega⟩,r1,⟨hv.1,by omega⟩,hk⟩,⟨j,⟨BL x.s ((j:Int)+2),swN x.ns (j+1) (AY x.s ((j:Int)+2)).toNat⟩⟩,⟨rfl,rfl,λ_ _=>rfl,rfl,rfl,cV _ _ _,cV _ _ _,λt ht=>?_⟩,⟨hF',?_,(r2.next (by omega) _).mono ?_,r3,?_⟩,Nat.lt_succ_self _⟩
     ·have e:=CGY (l:=x.ns) (i:=j+1) (k:=(AY x.s ((j:Int)+2)).toNat) r1 hk (t:=t)
      show (gD (swN x.ns (j+1) _) t).mi=_/\(gD (swN x.ns (j+1) _) t).t.lo=_/\(gD (swN x.ns (j+1) _) t).t.hi=_/\(gD (swN x.ns (j+1) _) t).s.lo=_/\(gD (swN x.ns (j+1) _) t).s.hi=_
      rw[e]
      cases decide (t=(AY x.s ((j:Int)+2)).toNat)<;>cases decide (t=j+1)<;>exact⟨rfl,rfl,rfl,rfl,rfl⟩
     ·show j<(swN x.ns _ _).length;rw[cV];omega
     ·show 7+7*a.m+5*a.m+a.m-((j+1:Nat):Int)+1<=7+7*a.m+5*a.m+a.m-(j:Int);omega
     ·show ((swN x.ns _ _).length:Int)<=_;rw[cV];exact r4
    ·obtain rfl:i=0:=by omega
     have e:x=mE a:=r3
     subst e
     exact⟨rfl,rfl,rfl,rfl,rfl,rfl,λ_ _=>⟨rfl,rfl⟩,rfl,Nat.le_refl _,λ_ _=>⟨rfl,rfl,rfl,rfl,rfl⟩,rfl,λ_ _=>rfl,rfl,λ_ _=>rfl,rfl,λ_ _=>rfl,rfl,λ_ _=>rfl,rfl,rfl⟩
theorem CBV:AH ZP 4 ((sR true).spec (CQX true)):=MK (sR true) (BST true) [] [305] Tryz.func4 (λ_=>by kernel_rfl) (λ_=>AA BGV (AA BOQ AD)) (λ(a:MkIQ) h=>CQA a (show wD a/\a.b=true from h).1 (show wD a/\a.b=true from h).2) (λ_=>OA rfl rfl) _
end Go.Bal
