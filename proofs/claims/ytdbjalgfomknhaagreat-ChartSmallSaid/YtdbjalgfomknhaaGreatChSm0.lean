/- ChartSmall: what it calls. -/
import Derived.Test.YtdbjalgfomknhaaGreatChZg
import Derived.Test.YtdbjalgfomknhaaGreatChSt
import Derived.Test.YtdbjalgfomknhaaGreatChZm
import Derived.Test.YtdbjalgfomknhaaGreatChKs
import Derived.Test.YtdbjalgfomknhaaGreatSym12
set_option linter.unusedVariables false
set_option linter.unusedSimpArgs false
namespace Go.Bal
open Go Go.Sym Go.Proofs
def BSO:Ann:=ann 249 [(BLP,CPR),(AIE,C_Stages.spec iT),(AXK,C_Times.spec B6),(AWX,C_samS.spec dSS2),(AWK,C_Stops12.spec iT),(AWZ,C_Pairs12.spec iT),(AJU,C_prov.spec dPrv),(AWY,C_samP.spec dPP2),(AXQ,C_Stage.spec dCZI),(BIS,C_Peak.spec dCZ2),(AXH,C_First.spec dCZI)]
def BVB:Prop:=ES Try.prog BSO BJM (AJ BJM) [] (AD []) (.bool true) [] [] []
abbrev AJN:=ADX
abbrev yO:=Sym.elemOf
abbrev Xq:=GW 2
abbrev Qz:=GW 3
abbrev M8 a b:=Ho (I2.mk a b)
abbrev Pt:=M8 310 320
abbrev vL a:=AE Pt a
abbrev wU a:=AR Pt a
abbrev uY a:=AL Pt a
abbrev xG a:=AC Pt a
abbrev xA a:=AS Pt a
abbrev vE a:=AN Pt a
abbrev uU a:=AM Pt a
abbrev Xl a b c d:=OF a 3 b c b b d
abbrev Bj:=BI 3
abbrev EN:=ER 10
abbrev UA:=ER 500
abbrev UD:=ER 12
abbrev lH a(b:Nat->DVal):=(@NK Pr) a (λi=>dPr (b i))
abbrev Ou a:=lU a AEJ
abbrev K7:=ofV (Xg 1)
abbrev NO:=M8 400 410
abbrev Yj a b c d e:=AV a b (HO c d e)
abbrev uQ:=FQ Pt
abbrev vD:=Ho (I2.mk 300 300)
attribute [go_sem] AJN yO Xq Qz M8 Pt vL wU uY xG xA vE uU Xl Bj EN UA UD lH Ou K7 NO Yj uQ vD
theorem CFC:(BVB)=(AI (AH EN UD (JA UA EN LI Bj (λi=>Xl i Pt i i) YF (λi=>BJ i 2 (uU i) (vE i) (xA i) (xG i) (uY i) (wU i) (vL i)) Qz Xq)) (And EN (DI UD UA EN LI Bj (AB (λi=>Xl i Pt i i)) YF (λi=>BJ i 2 (uU i) (vE i) (xA i) (xG i) (uY i) (wU i) (vL i)) (Qo AG Qz Xq jG))) (And EN (DI UD UA EN LI Bj (AB (λi=>Xl i vD i i)) YF (λi=>BJ i 2 (AM vD i) (AN vD i) (AS vD i) (AC vD i) (AL vD i) (AR vD i) (AE vD i)) (Qo AG Qz Xq jG))) (AH (PO (And Bj (lW (AB (λi=>BF i 3 (AZ (WO (Ke uQ) i) (OV (Ke uQ) i)) (AQ (WO (Ke uQ) i) (OV (Ke uQ) i)))) Bj (AB (λi=>It i 3 (OV (Me 3 (λj=>Rc (Mt j 695 995 795) (Mt j 705 1005 805))) i) (Mt i 695 995 795) (Mt i 705 1005 805))) Qz))) (PO (And Bj (lW (AB (λi=>BF i 3 (AZ (WO (XG (XT uQ wF)) i) (OV (XG (XT uQ wF)) i)) (AQ (WO (XG (XT uQ wF)) i) (OV (XG (XT uQ wF)) i)))) Bj (AB (λi=>It i 3 (OV (Me 3 (λj=>Rc (Mt j 0 100 310) (Mt j 0 120 320))) i) (Mt i 0 100 310) (Mt i 0 120 320))) Qz))) (PO (HZ 1 3))) (Qo (AH EN UD (JA UA EN LI Bj (λi=>Xl i NO i i) YF (λi=>BJ i 2 (AM NO i) (AN NO i) (AS NO i) (AC NO i) (AL NO i) (AR NO i) (AE NO i)) (And Qz Xq) (CJ BP (CW 2 12)))) (And EN (CS UD UA EN LI Bj (AB (λi=>Xl i NO i i)) (IA YF (λi=>BJ i 2 (AM NO i) (AN NO i) (AS NO i) (AC NO i) (AL NO i) (AR NO i) (AE NO i)) (ER 1) Af HN (AB (λi=>aO i 1 (lH 1 (λj=>AJN (Ou (yO (lU (ofV vS) (Ou K7)))) j)) i 0 1)) Qz Xq (GW 1)))) (CS EN UD UA EN LI Bj (CR (AB (λi=>Xl i NO i i)) YF (λi=>BJ i 2 (AM NO i) (AN NO i) (AS NO i) (AC NO i) (AL NO i) (AR NO i) (AE NO i)) Af HN (AB (λi=>Yj i 1 (El 1 (λj=>0)) i 0)) Qz Xq (GW 1))) (BB (CS EN UD UA EN LI Bj (CR (AB (λi=>Xl i NO i i)) YF (λi=>BJ i 2 (AM NO i) (AN NO i) (AS NO i) (AC NO i) (AL NO i) (AR NO i) (AE NO i)) Af HN (AB (λi=>Yj i 1 (El 1 (λj=>1)) i 1)) Qz Xq (GW 1))) (M7 (PO (And Af (lW (AB (λi=>aO i 1 (Wj (lX (fB NO))) i (LV (lX (fB NO)) i) (LU (lX (fB NO)) i))) Af (AB (λi=>aO i 1 (lH 1 (λj=>AJN (Ou (yO (lU (ofV vS) (Ou K7)))) j)) i 0 1)) (GW 1)))) (PO (HZ 1 3))) (CS EN UD UA EN LI Bj (cA (AB (λi=>Xl i Pt i i)) YF (AB (λi=>BJ i 2 (uU i) (vE i) (xA i) (xG i) (uY i) (wU i) (vL i))) AG (ER 50) Qz Xq jG)) (CS EN UD UA EN LI Bj (cA (AB (λi=>Xl i Pt i i)) YF (AB (λi=>BJ i 2 (uU i) (vE i) (xA i) (xG i) (uY i) (wU i) (vL i))) AG (ER 320) Qz Xq jG)) (CS EN UD UA EN LI Bj (cA (AB (λi=>Xl i Pt i i)) YF (AB (λi=>BJ i 2 (uU i) (vE i) (xA i) (xG i) (uY i) (wU i) (vL i))) AG (ER 321) Qz Xq jG)) (And EN (CS UD UA EN LI Bj (AB (λi=>Xl i Pt i i)) (Sz YF (AB (λi=>BJ i 2 (uU i) (vE i) (xA i) (xG i) (uY i) (wU i) (vL i))) AG (AI BP (ER 110) Qz Xq jG)))) (CS EN UD UA EN LI Bj (cA (AB (λi=>Xl i Pt i i)) YF (AB (λi=>BJ i 2 (uU i) (vE i) (xA i) (xG i) (uY i) (wU i) (vL i))) AG (ER 1000) Qz Xq jG)) (CS EN UD UA EN LI Bj (cA (AB (λi=>Xl i Pt i i)) YF (AB (λi=>BJ i 2 (uU i) (vE i) (xA i) (xG i) (uY i) (wU i) (vL i))) AG (ER 995) Qz Xq jG)) IU))):=by kernel_rfl
def sp12(c:Cht):Prop:=bigV c=false->AP c=0->c.ns.length<=12
def C_lSp:Ctr:={ α:=SpI,xs:=xSp,val:=λ_=>.bool true,keep:=λ_=>[],pre:=λx=>[sp12 x.c] }
def CGT:Ann:=ann 153 [(X4,C_big.spec AVQ),(ABX,AIK),(BAB,C_cpC.spec iT),(BGZ,C_cpP.spec BSY),(oG,C_law.spec iT),(BOK,C_Late.spec dCP),(BHW,C_Late.spec dCP),(AWK,C_Stops12.spec iT),(APN,C_zFw.spec iT),(AWZ,C_Pairs12.spec iT),(Wi,C_Times.spec B6),(ANI,C_prov.spec dPrv),(AHJ,C_cpP.spec BSY),(AJU,C_prov.spec dPrv),(AWY,C_samP.spec dPP2),(zR,C_smC.spec AVQ)]
def CAX(x:SpI):Prop:=ES Try.prog CGT AZL (AJ AZL) (xSp x) (AD []) (.bool true) [] [] []
abbrev EK:=SpI.c
abbrev sZ:=SpI.l
abbrev BAI a b c:=FY a b a c
abbrev VY a:=Wj (sZ a)
abbrev Ol a:=Wj (VY a)
abbrev L3 a:=tM (Wg a) (Wg a)
abbrev G6 a:=BBJ (EK a) (EK a)
abbrev aY a:=JE (HK (EK a)) (IN (EK a))
abbrev Xp a:=BLK (EK a) (aY a) (G6 a)
abbrev BAP a b c:=Jb (Prv.mk (Xp a) b c)
abbrev aX a b c:=BAP a (SpI.n b) (Ol c)
abbrev Y5 a:=Og (Ua a) (Ua a)
abbrev T8 a:=vI (Ol a)
abbrev Ii a:=DV (G6 a)
abbrev Jh a:=EB (aY a)
abbrev Qa a b:=Ax (G6 a) b
abbrev Pg a b:=Ay (G6 a) b
abbrev Vp a b:=AR (EK a) b
abbrev gB a b c d:=MN (Qa a b) (EK c) d
abbrev Vs a b:=AS (EK a) b
abbrev cO a b c d:=MQ (Pg a b) (EK c) d
abbrev cW a b c:=dV (G6 a) b (EK c)
abbrev cT a b:=AHH (Ii a) (EK b)
abbrev eP a b:=Te (Jh a) (EK b)
abbrev rF a:=GW (Ii a)
abbrev rT a:=GW (Jh a)
abbrev sH a:=Jg (Xp a)
abbrev ATD a:=lX (sH a)
abbrev kM a:=Wj (ATD a)
abbrev QL a b c d(e:Nat->Prop) f g(h:Nat->Prop) p:=CF a b c d e f g (AB h) p
attribute [go_sem] EK sZ BAI VY Ol L3 G6 aY Xp BAP aX Y5 T8 Ii Jh Qa Pg Vp gB Vs cO cW cT eP rF rT sH ATD kM QL
theorem CLK(x:SpI):(CAX x)=(And (Gr (EK x) (BW (EK x)) (λi=>ID i (EK x)) (BO (EK x)) (AB (λi=>AT i (EK x) (AM (EK x) i) (AN (EK x) i) (Vs x i) (AC (EK x) i) (AL (EK x) i) (Vp x i) (AE (EK x) i)))) (Cg (fG (EK x)) (UP (GA (sZ x)) 45) IU (Sz (Ag (EK x) (QL (BQ (EK x)) (BW (EK x)) (DK (EK x)) (BO (EK x)) (λi=>AT i (EK x) (AM (EK x) i) (AN (EK x) i) (Vs x i) (AC (EK x) i) (AL (EK x) i) (Vp x i) (AE (EK x) i)) (And (MI (HK (EK x))) (Ss (EK x))) (RZ (VY x) (sZ x)) (λi=>uI i (VY x) (sZ x)) (uS (GA (VY x))))) (TY (EK x) (λi=>AT i (EK x) (AM (EK x) i) (AN (EK x) i) (Vs x i) (AC (EK x) i) (AL (EK x) i) (Vp x i) (AE (EK x) i)) (Pe (EK x) 42) (Om (EK x) 42)) (Ag (EK x) (IY (BQ (EK x)) (eP x x) (λi=>Xx i (Jh x) (aY x) (EK x)) (cT x x) (λi=>BJ i (Ii x) (cW x i x) (cO x i x i) (Pg x i) (Vs x i) (gB x i x i) (Qa x i) (Vp x i)) (AF (JM (SpI.p x))) (AF (JF (SpI.p x))) (rT x) (rF x))) (bE (lY (Ua (uD (CP.mk (Xp x) (SpI.p x))))) (L3 (uD (CP.mk (Xp x) (SpI.p x)))) (BAI (Bf (EK x) (MR (EK x) (eP x x) (λi=>Xx i (Jh x) (aY x) (EK x)) (cT x x) (λi=>BJ i (Ii x) (cW x i x) (cO x i x i) (Pg x i) (Vs x i) (gB x i x i) (Qa x i) (Vp x i)) (And (rT x) (rF x)) (CJ (GZ (Xp x)) (CW (Ii x) 12)))) (Bf (EK x) (MR (EK x) (eP x x) (λi=>Xx i (Jh x) (aY x) (EK x)) (cT x x) (λi=>BJ i (Ii x) (cW x i x) (cO x i x i) (Pg x i) (Vs x i) (gB x i x i) (Qa x i) (Vp x i)) (rT x) (rF x))) (qP (KE (N6 (QR (tH (sH x)) (AVU (A5 (Xp x)))) LW (QR (tH (sH x)) (AVU (A5 (Xp x))))) (lG (FP (mD (sH x))) (pV (Xp x)))) (lG (GA (ATD x)) (pV (Xp x))) (FV (Ob (tH (sH x))) (LQ (BY (EK x)) (DF (EK x)) (BM (EK x)) (BV (EK x)) (BQ (EK x)) (IA (eP x x) (λi=>Xx i (Jh x) (aY x) (EK x)) (cT x x) (AB (λi=>BJ i (Ii x) (cW x i x) (cO x i x i) (Pg x i) (Vs x i) (gB x i x i) (Qa x i) (Vp x i))) (HL (mD (sH x))) (QW (mD (sH x))) (rT x) (rF x) (PG (mD (sH x)))) (FV (MG (ZD (oR (Xp x) (mD (sH x))))) Pn (BL (RZ (kM x) (ATD x)) (Ir (XM (kM x) (ATD x)) (MI (GA (kM x))) (EK x) (eP x x) (CR (Rv (Jh x) (aY x) (EK x)) (cT x x) (λi=>BJ i (Ii x) (cW x i x) (cO x i x i) (Pg x i) (Vs x i) (gB x i x i) (Qa x i) (Vp x i)) (AF (pV (Xp x))) (RZ (Wj (kM x)) (kM x)) (XM (Wj (kM x)) (kM x)) (rT x) (rF x) (vI (Wj (kM x))))) (bE (MG (Ua (BAP x (pV (Xp x)) (Wj (kM x))))) (Wg (BAP x (pV (Xp x)) (Wj (kM x)))) (And (Gt (EK x) (eP x x) (CR (Rv (Jh x) (aY x) (EK x)) (cT x x) (λi=>BJ i (Ii x) (cW x i x) (cO x i x i) (Pg x i) (Vs x i) (gB x i x i) (Qa x i) (Vp x i)) (AF (SpI.n x)) (RZ (Ol x) (VY x)) (XM (Ol x) (VY x)) (rT x) (rF x) (T8 x))) (DT (RZ (VY x) (sZ x)) (Ir (XM (VY x) (sZ x)) (MI (GA (VY x))) (EK x) (eP x x) (CR (Rv (Jh x) (aY x) (EK x)) (cT x x) (λi=>BJ i (Ii x) (cW x i x) (cO x i x i) (Pg x i) (Vs x i) (gB x i x i) (Qa x i) (Vp x i)) (AF (SpI.n x)) (RZ (Ol x) (VY x)) (XM (Ol x) (VY x)) (rT x) (rF x) (T8 x))) (And (IT (IB (Y5 (aX x x x)) (L3 (aX x x x))) (FY (BY (EK x)) (DF (EK x)) (BM (EK x)) (Dp (EK x) (eP x x) (Rv (Jh x) (aY x) (EK x)) (cT x x) (λi=>BJ i (Ii x) (cW x i x) (cO x i x i) (Pg x i) (Vs x i) (gB x i x i) (Qa x i) (Vp x i)) (BY (EK x)) (DF (EK x)) (MR (EK x) (FW (Jh x) (EK x)) (λi=>VB i (Jh x) (OS (aY x) i) (EK x) (aY x)) (CH (Ii x) (AO (EK x))) (λi=>BJ i (Ii x) (DR (PH (G6 x) i) (EK x) i) (CX (Pg x i) (EK x) i) (Pg x i) (AC (EK x) i) (CU (Qa x i) (EK x) i) (Qa x i) (AE (EK x) i)) (MI (Jh x)) (MI (Ii x)))))) (IT (vM (Y5 (aX x x x)) (L3 (aX x x x))) (Bq (RZ (Ol x) (VY x)) (XM (Ol x) (VY x)) (RZ (VY x) (sZ x)) (XM (VY x) (sZ x)) (T8 x) (vI (VY x))))) (MD LW (vM (vM (Y5 (aX x x x)) (L3 (aX x x x))) (samP (PP2.mk (Ol x) (VY x))))))))))) (And (Gt (EK x) (eP x x) (CR (Rv (Jh x) (aY x) (EK x)) (cT x x) (λi=>BJ i (Ii x) (cW x i x) (cO x i x i) (Pg x i) (Vs x i) (gB x i x i) (Qa x i) (Vp x i)) (AF (SpI.n x)) (RZ (Ol x) (VY x)) (XM (Ol x) (VY x)) (rT x) (rF x) (T8 x))) (DT (RZ (VY x) (sZ x)) (Ir (XM (VY x) (sZ x)) (MI (GA (VY x))) (EK x) (eP x x) (CR (Rv (Jh x) (aY x) (EK x)) (cT x x) (λi=>BJ i (Ii x) (cW x i x) (cO x i x i) (Pg x i) (Vs x i) (gB x i x i) (Qa x i) (Vp x i)) (AF (SpI.n x)) (RZ (Ol x) (VY x)) (XM (Ol x) (VY x)) (rT x) (rF x) (T8 x))) (And (IT (IB (Y5 (aX x x x)) (L3 (aX x x x))) (FY (BY (EK x)) (DF (EK x)) (BM (EK x)) (Dp (EK x) (eP x x) (Rv (Jh x) (aY x) (EK x)) (cT x x) (λi=>BJ i (Ii x) (cW x i x) (cO x i x i) (Pg x i) (Vs x i) (gB x i x i) (Qa x i) (Vp x i)) (BY (EK x)) (DF (EK x)) (MR (EK x) (FW (Jh x) (EK x)) (λi=>VB i (Jh x) (OS (aY x) i) (EK x) (aY x)) (CH (Ii x) (AO (EK x))) (λi=>BJ i (Ii x) (DR (PH (G6 x) i) (EK x) i) (CX (Pg x i) (EK x) i) (Pg x i) (AC (EK x) i) (CU (Qa x i) (EK x) i) (Qa x i) (AE (EK x) i)) (MI (Jh x)) (MI (Ii x)))))) (IT (vM (Y5 (aX x x x)) (L3 (aX x x x))) (Bq (RZ (Ol x) (VY x)) (XM (Ol x) (VY x)) (RZ (VY x) (sZ x)) (XM (VY x) (sZ x)) (T8 x) (vI (VY x))))) (MD LW (vM (vM (Y5 (aX x x x)) (L3 (aX x x x))) (samP (PP2.mk (Ol x) (VY x)))))))))))))):=by kernel_rfl
def C_oneO:Ctr:={ α:=I2,xs:=xI2,val:=λ_=>.agg [.int 10,.int 12,.int 500,.int 10,.int 5,.own 0 2 0 3,.own 1 5 0 2],keep:=λx=>[(0,.live (.row 2 3 λi=>eMk (gD (oneM x).ms i))),(1,.live (.row 5 2 λi=>eNt (gD (oneM x).ns i)))] }
def dI2c:List AVal->Heap->Option (I2×List (Nat×Nat)×List Nat)
 |xs,_=>match dI2 xs with
  |some x=>some (x,[],[])
  |none=>none
def BZF(x:I2):Prop:=ES Try.prog (ann 21 []) BLG (AJ BLG) (xI2 x) (AD []) (C_oneO.val x) (C_oneO.keep x) [(0,3064),(1,3192)] []
abbrev Ms a:=Qq EN UD UA a
attribute [go_sem] Ms
theorem CKA(x:I2):(BZF x)=(Ms (Kc LI Bj (Lc YF Bj (AB (λi=>CI i 3 (BE (Ho x) i) (Mt i 0 10 30) (BS (Ho x) i) (Mt i 20 50 30))) (λi=>AV i 2 (XO (BR (Ho x) i) (Bz i 0 2) (BD (AC (Ho x) i) (Bz i 0 (Wh x))) (AC (Ho x) i) (Bz i 0 (Qk x)) (BD (AE (Ho x) i) (Bz i 0 0)) (AE (Ho x) i) (Bz i 2000 2000)))))):=by kernel_rfl
def C_lTi:Ctr:={ α:=TiI,xs:=xTi,val:=λ_=>.bool true,keep:=λ_=>[] }
def csI0:List Int:=[]
def csP0:List Pr:=[]
def csM0:List Mk:=[]
def csN0:List Nt:=[]
def CEJ(a:AVal)(H:Heap):Option (List Int×List Nat):=match a with
 | .d (.list k n g _)=>match Nat.beq k 0 with
  |true=>some (csI0,[])
  |false=>some (NK n λi=>KN (g i),[])
 |a=>tL a H
def DDD(a:AVal)(H:Heap):Option (List Pr×List Nat):=match a with
 | .d (.list k n g _)=>match Nat.beq k 0 with
  |true=>some (csP0,[])
  |false=>some (NK n λi=>dPr (g i),[])
 |a=>dPrs a H
def DAQ(a:AVal)(H:Heap):Option (Tru×List Nat):=match a with
 | .d (.agg [.list k n f _,.list q m g _,.list r o h _])=>match Nat.beq k 0,Nat.beq q 0,Nat.beq r 0 with
  |true,true,true=>some (⟨csI0,csI0,csI0⟩,[])
  |_,_,_=>some (⟨NK n λi=>KN (f i),NK m λi=>KN (g i),NK o λi=>KN (h i)⟩,[])
 |a=>CSA a H
def CAO(a:AVal)(H:Heap):Option (Cht×List Nat):=match a with
 | .d (.agg [a,b,c,d,e,.list k n f _,.list q m g _])=>match Nat.beq k 0,Nat.beq q 0 with
  |true,true=>some (⟨⟨KN a,KN b⟩,KN c,KN d,KN e,csM0,csN0⟩,[])
  |_,_=>some (⟨⟨KN a,KN b⟩,KN c,KN d,KN e,NK n λi=>dMk (f i),NK m λi=>dNt (g i)⟩,[])
 |a=>tN a H
def dTiA:List AVal->Heap->Option (TiI×List (Nat×Nat)×List Nat)
 |[x,y,.d m,.d t,z],H=>match CAO x H,CEJ y H,DAQ z H with
  |some (c,g),some (l,e),some (u,h)=>some (⟨⟨c,l⟩,KN m,KN t,u⟩,[],g ++ e ++ h)
  |_,_,_=>none
 |_,_=>none
def dPrA:AVal->Option Pr
 | .d p=>some (dPr p)
 | .agg [.d a,.d b]=>some ⟨KN a,KN b⟩
 |_=>none
def dSpA:List AVal->Heap->Option (SpI×List (Nat×Nat)×List Nat)
 |[x,p,.d n,y],H=>match CAO x H,dPrA p,DDD y H with
  |some (c,g),some q,some (l,e)=>some (⟨c,q,KN n,l⟩,[],g ++ e)
  |_,_,_=>none
 |_,_=>none
def C_lSt:Ctr:={ α:=StI,xs:=xSt,val:=λ_=>.bool true,keep:=λ_=>[] }
def dStA:List AVal->Heap->Option (StI×List (Nat×Nat)×List Nat)
 |[x,y,.d a,.d b,.d c,.d d],H=>match CAO x H,CEJ y H with
  |some (q,g),some (l,e)=>some (⟨⟨q,l⟩,KN a,KN b,KN c,KN d⟩,[],g ++ e)
  |_,_=>none
 |_,_=>none
theorem CJN:BVB:=by
 rw[CFC]<;> delta MD BH BK DY RU EM EO CH IH AB CJ CE AY OV CG MY CW HD KA IG EB FX EC GY GX GR GG DV FO FU Me FS El LW NR WW Rc XT JM JF GA QB AEK Ho lU AEJ lX AJN yO AH CK IW AX JE AI BC AV AF IK M7 IN BI GJ MK Sz Qo lW AQ JB BB AC CN BF MC AE BD DD LZ AZ DC BR BE BS BJ AR cA SZ CI OC Yv AS ER CF AG IE BX NU CU M8 GW HO DN CX OE Av FQ DU HY Wj DR OD LU LV Bz HN JA ZS OF CR BP DI CS Pt WX J2 Xg WO AL AN AM IU EN LM VW HZ aO PO IA XG NO LI UA UD vS Ke Bj YF Af Mt Qz Xq Ou fB It jG Xl uQ vD uU vE uY vL xA wU xG Yj lH K7 wF;simp only[CC,eq_self,implies_true,forall_const]
 decide +kernel
theorem AKB:AW Try.prog ABX AIK:=AVV λxs v p h _=>by
 unfold BST at h;split at h
 ·cases h;exact Wk (A:=BSO) (ren:=[]) (fz:=[]) CHW (by kernel_rfl) (AA CWF (AA BMV (AA BNF (AA BSX (AA AZR (AA BBK (AA BTL (AA BSV (AA BLO (AA BTR (AA BME AK))))))))))) CJN
 ·cases h
theorem CVD(x:SpI)(h12:sp12 x.c):CAX x:=by
 rw[CLK]<;> delta MD N6 Iv BH BK DY EM EO CH AB CJ CE AY CG CW FV EB FX EC GY GX GR GG DV FO FU FP FS El Og LW WB US QR ED XT Wg Ua JM JF GA QB T7 tM AVU mD lX tH EK sZ AH CK IW AX JE AI WE BC AV AF IK IN GJ lY Sz AQ WV JB BB AC BZ CN BF MC AE AO BD HK DD LZ AZ DC BR BE BS BJ AR BQ WQ AYN SZ BV HF CI OC GQ BL BBJ AS BM CY BY EV CF IE CU GW HO CX OE FQ DF DU BLK HY Wj IC DR OD EA DT LU KQ oR HH FG FW LV AT IZ aY Ax VV JA IT Ay OF OS CR VY RG CS GZ DZ HU PH BO BW G6 AL AN AM LJ KO ID NP MQ MN DK JI IU KE Kr HL SC QD LM Mc NV MP IB QE Gr MR LL NY FY Ii BAI PM VB uI IA UP Jh IY Ol AHH UC MI Xp Te RZ MG PG dV QW QP Pg MO QL Qa Cg Pe ZD LQ XM sH Bf YH Fp Pn Gt Xx Dp TY Vs Vq Vp ATD BAP Om uS Ag lG Bq Rv vI aX cT eP kM lJ Ob cW rT qP rF gB Ir cO Ss pV bE L3 fG vM T8 Y5;simp only[CC,eq_self,implies_true,forall_const,FR]
 simp only[CYK,CIM,AGQ,BVY,bne_self_eq_false,beq_self_eq_true,Bool.and_self,Bool.not_true,cond_false,cond_true,Bool.false_eq_true,false_implies,true_and,and_true,forall_const]
 intro h0
 simp only[Bool.cond_true_left,Bool.or_eq_false_iff,decide_eq_false_iff_not] at h0
 obtain⟨hB,hz⟩:=h0
 obtain⟨b1,b2⟩:=CJB hB
 have b3:=CZH x.c b2
 have h12:=h12 hB
 have f12:(x.c.ms.length<4611686018427387904/\x.c.ns.length<4611686018427387904)/\(AP x.c=0->x.c.ns.length<=12):=⟨⟨by omega,by omega⟩,h12⟩
 refine⟨⟨⟨by omega,by omega⟩,by omega⟩,⟨by omega,by omega⟩,⟨by omega,by omega⟩,⟨by omega,by omega⟩,f12,⟨by omega,by omega⟩,f12,λhe=>?_,λ_=>⟨⟨by omega,by omega,by omega⟩,⟨by omega,by omega,by omega,by omega⟩,⟨by omega,by omega⟩,by omega⟩⟩
 obtain⟨_,_,_,f1,f2⟩:=BWC (c:=x.c) (eq_of_beq he)
 rw[f1,f2]
 exact⟨⟨by omega,by omega,by omega⟩,λh=>(by cases h),λ_=>⟨⟨by omega,by omega,by omega,by omega⟩,λh=>(by cases h),λ_=>⟨⟨by omega,by omega,by omega⟩,⟨by omega,by omega,by omega,by omega⟩,⟨by omega,by omega⟩,by omega⟩⟩⟩
theorem CZA:AW Try.prog BCV (C_lSp.spec dSpA):=okT C_lSp (λ(x:SpI) h=>Wk (A:=CGT) (L:=[]) (keep:=[]) (ren:=[]) (fz:=[]) BXM (by kernel_rfl) (AA BQS (AA AKB (AA BOW (AA CTZ (AA BNR (AA CMH (AA CCT (AA AZR (AA CUQ (AA BBK (AA L0 (AA CLM (AA CXR (AA BTL (AA BSV (AA BQT AK)))))))))))))))) (CVD x h)) dSpA
theorem CWR:AW Try.prog BAF (C_lTi.spec dTiA):=okT C_lTi (λ(x:TiI) _=>Wk (A:=A_Ti) (L:=[]) (keep:=[]) (ren:=[]) (fz:=[]) BXI (by kernel_rfl) (AA BQS (AA AKB (AA BOW (AA CGX (AA BNR (AA ALC (AA dW (AA BMV (AA BBT (AA BSX (AA CJA (AA CIP (AA BNF (AA L0 (AA CVM (AA CWM (AA COM (AA CIC (AA BQT AK))))))))))))))))))) (p_Ti x)) dTiA
theorem CWW:AW Try.prog ANG (C_lSt.spec dStA):=okT C_lSt (λ(x:StI) _=>Wk (A:=A_St) (L:=[]) (keep:=[]) (ren:=[]) (fz:=[]) BQJ (by kernel_rfl) (AA BQS (AA AKB (AA BOW (AA CGX (AA BNR (AA BLO (AA CLY (AA BTR (AA CTD (AA BME (AA COF (AA CIC (AA BQT AK))))))))))))) (p_St x)) dStA
theorem CME:AW Try.prog BLP (C_oneO.spec dI2c):=Je C_oneO (λ_=>ann 21 []) [(0,3064),(1,3192)] [] BZR (λ_=>by kernel_rfl) (λ_=>AK) (λ(x:I2) _=>by
 show BZF x;rw[CKA]<;> delta BH BK DY EM EO CH AB CJ CE AY MY IG FX GG FO FU NR WW Wh Qk Ho AH CK AI BC AV AF BI Qq Mi AC CN BF AE BD BR BE BS CI ER AG NU Bz WX J2 EN LI UA UD Bj YF Dy Mt Kc XO Lc Ms;simp only[CC,eq_self,implies_true,forall_const]
 refine⟨λi hi=>?_,λi hi=>?_⟩
 ·match i,hi with
  |0,_=>exact⟨rfl,rfl⟩
  |1,_=>exact⟨rfl,rfl⟩
  |2,_=>exact⟨rfl,rfl⟩
 ·match i,hi with
  |0,_=>exact⟨rfl,rfl,rfl,rfl,rfl⟩
  |1,_=>exact⟨rfl,rfl,rfl,rfl,rfl⟩) (λ_=>Kp rfl rfl) _
end Go.Bal
