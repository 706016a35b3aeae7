/- Package rating: Dry. -/
import Derived.Test.YtceloknnpdonhaaGreatRatO
set_option linter.unusedVariables false
set_option linter.unusedSimpArgs false
namespace Go.Bal
open Go Go.Sym Go.Proofs
def dryM(a:GB):Span×Int:=bif HS a==0 then (bif decide ((lnK a 0).length=0) then (default,6) else (⟨upMO dr2 ⟨ZE a,0⟩,upMO dr3 ⟨ZE a,0⟩⟩,0)) else (default,HS a)
def C_Dry:Ctr:={ α:=GB,xs:=xGB,L:=λ_=>[],val:=λx=>.tup [.d (TF (dryM x).1),.int (dryM x).2],keep:=λ_=>[],pre:=λx=>[preB x/\True] }
def G_dy(c:Sym.Spec):List (FuncId×Sym.Spec):=[(lO,c),(BCE,C_lns.spec dBkS),(AYK,orS ((rM dr2 aZ).spec (dUpO aZ)) ((rM dr3 dJ).spec (dUpO dJ)))]
def DML:Ann:=ann 31 (G_dy (C_open.spec dGB))
def DOS:Ann:={ ann 31 (G_dy (C_openX.spec dGB)) with cut:=λid=>if id=4 then some [] else none }
def DMQ(x:GB):Prop:=BG Try.prog DML CGU (AL CGU) (xGB x) (AF []) (C_Dry.val x) [] [] []
abbrev LO a:=CDO (MJ a) 0
abbrev VX a:=CHE (MJ a) (LO a)
abbrev Cr a:=Pd (MJ a)
abbrev Rq a:=pT (MJ a)
abbrev AIU a:=QN (MJ a)
abbrev AGE a:=Ud (MJ a)
attribute [go_sem] LO VX Cr Rq AIU AGE
theorem DPE(x:GB):(DMQ x)=(PC (FT (Ri (YH x) x) (AT (YH x) (gK x)) (OD (WE x)) (QC (WE x)) (Fo (YH x)) (Aw (WE x)) (BE (YQ (YH x) (WE x)))) (Z4 (Ev 0) (IN (Rq x) (MJ x)) (SX (Rq x) (MJ x)) (AJ (NC (Cr x) (MJ x)) (AK (λi=>TI i (Cr x) (MJ x) i)) CV Ya (EB (OI (MJ x)) (AN (λi=>EX (AGE x) i (MJ x) (λj=>DW j (AGE x) i (MJ x) (CU (CH (AGE x) i j) (CH (MJ x) i j) (CF (AGE x) i j) (CF (MJ x) i j) (FB (AGE x) i j) (MJ x) i j)))) (IN (AIU x) (LO x)) (SX (AIU x) (LO x)) (MO (MJ x) (LO x)) (λi=>MP i (MJ x) (LO x)) (PD (Rq x) (Cr x) DX (λi=>PG i (Cr x) i i)) (BC 0) (BC 2000)))) (GA (AU (JY (L2 (AGE x) 0 0 0)))) (Kc (dryM x) 0 (Wg (dryM x)) 6) (And (DN 0 FU (IN (Rq x) (MJ x)) (ZC (SX (Rq x) (MJ x)) (NC (Cr x) (MJ x)) (λi=>TI i (Cr x) (MJ x) i) CV (KE (QV (LO x)) (OI (LO x)) (AN (λi=>EX (VX x) i (LO x) (λj=>DW j (VX x) i (LO x) (CU (CH (VX x) i j) (CH (LO x) i j) (CF (VX x) i j) (CF (LO x) i j) (FB (VX x) i j) (LO x) i j)))) (CG (AIU x) (Rq x)) (λi=>CR i (AIU x) (Rq x)) (AW (XL (MJ x)) (Cr x)) (λi=>Bn i (MJ x) (BJ (Cr x) i)) CV (AP (QV (LO x)) (OI (LO x)) (AN (λi=>EX (LO x) i (VX x) (λj=>DW j (LO x) i (VX x) (CU (CH (LO x) i j) (CH (VX x) i j) (CF (LO x) i j) (CF (VX x) i j) (FB (LO x) i j) (VX x) i j)))) (AY (PD (Rq x) (Cr x) DX (λi=>PG i (Cr x) i i)) (BC 0) (BC (ER (Cr x))) MK) (Ev 0) (IN (Rq x) (MJ x)) (SX (Rq x) (MJ x)) (NC (Cr x) (MJ x)) (AP (AK (λi=>TI i (Cr x) (MJ x) i)) CV (QV (LO x)) (OI (LO x)) (AN (λi=>EX (VX x) i (LO x) (λj=>DW j (VX x) i (LO x) (CU (CH (VX x) i j) (CH (LO x) i j) (CF (VX x) i j) (CF (LO x) i j) (FB (VX x) i j) (LO x) i j)))) (CG (AIU x) (Rq x)) (AT (AIU x) (Rq x)) (AW (XL (MJ x)) (Cr x)) (AP (AK (λi=>Bn i (MJ x) (BJ (Cr x) i))) CV (QV (LO x)) (OI (LO x)) (AN (λi=>EX (LO x) i (VX x) (λj=>DW j (LO x) i (VX x) (CU (CH (LO x) i j) (CH (VX x) i j) (CF (LO x) i j) (CF (VX x) i j) (FB (LO x) i j) (VX x) i j)))) (PD (Rq x) (Cr x) DX (λi=>PG i (Cr x) i i)) (BC 0) (BC (ER (Cr x))) MK)))))) (Kc (dryM x) (iZ dr2 (BkI.mk (VX x) 0)) (FQ (oX (dryM x)) (iZ dr3 (BkI.mk (VX x) 0))) 0))):=by kernel_rfl
def DNH(x:GB):Prop:=BG Try.prog DOS CGU (AL CGU) (xGB x) (AF []) (C_Dry.val x) [] [] []
theorem DQK(x:GB):(DNH x)=(AH (FT (Ri (YH x) x) (AT (YH x) (gK x)) (OD (WE x)) (QC (WE x)) (Fo (YH x)) (Aw (WE x)) (VD (YQ (YH x) (WE x)))) (DV (PK (YQ (YH x) (WE x))) (Kc (dryM x) 0 (Wg (dryM x)) (YQ (YH x) (WE x))) PS) FI):=by kernel_rfl
theorem DWD(x:GB)(h:preB x)(hE:HS x=0):DMQ x:=by
 rw[DPE]<;> delta JB Oz EM FL AR AK BO CI AO AU UH EA DV DJ DX Cu QJ QP AN BN BJ JN oX jH EY GW FC GF GD HB CW FX Jb JY NK Dc QN XL Xt Ma gK WE Po iZ AH LY NX LX NY AJ AZ AI DG BU FJ RH Z4 sM sI AOR YH AP Wm DI tP BOB DY BZ BC DZ EZ Pd pT APF Ud CHE DN GQ JA FQ ER ID HC AW Ca HY GT YB FB Il HL AY CG CF CDO Bt IA CH JZ KC Yf FK BD HN MJ FG OB EN GH AS CV FU GM OI QV BE LO Hq CU Cw NC CR Cy Wr AT Oc EX QE DW XK HP MK EB IN Bn UE L2 GA MO Ka Cr FT VX MP Mw PG Rq OD KE dG TI SX YQ QC Ev My PC PD Aw ZC Fo Wg Ya Ri Kc AGE AIU;simp only[CC,eq_self,implies_true,forall_const,Wy,eE,AOW,AOJ,eD,if_true]
 have hb:Ic x.g x.b:=BMR hE
 have e0:HS x==0:=by rw[hE];rfl
 refine⟨⟨h.1,h.2,hE⟩,⟨rfl,rfl,hb,by omega,by omega⟩,λhc=>?_,λhc=>⟨⟨rfl,⟨hb,by omega,by omega⟩,rfl,hb,by omega,by omega⟩,?_⟩⟩
 ·have hc:((lnK x 0).length:Int)==0:=hc
  have e:dryM x=(default,6):=by
   unfold dryM;rw[e0,decide_eq_true (show (lnK x 0).length=0 by have:=eq_of_beq hc;omega)];rfl
  rw[e];exact⟨rfl,rfl,rfl⟩
 ·have hc:(((lnK x 0).length:Int)==0)=false:=hc
  have e:dryM x=(⟨upMO dr2 ⟨ZE x,0⟩,upMO dr3 ⟨ZE x,0⟩⟩,0):=by
   unfold dryM;rw[e0,decide_eq_false (show ¬(lnK x 0).length=0 by intro h0;rw[h0] at hc;cases hc)];rfl
  rw[e];exact⟨rfl,rfl,rfl⟩
theorem DVN(x:GB)(h:preB x)(hE:HS x≠0):DNH x:=by
 rw[DQK]<;> delta EM FL AR AK BO CI AO DV FI Gi PS BN BJ JN oX jH EY GW CW FX gK WE AH LY NX LX NY AJ AZ DG BU AOR YH DI DY DZ EZ DN GQ JA FQ ID HC AW HY HL CG IA KC BD FG EN GH AS GM CR AT HP FT PK OD dG YQ QC My Aw VD Fo Wg Ri Kc;simp only[CC,eq_self,implies_true,forall_const,Wy,eE,AOW,AOJ,eD,if_true]
 have hE:HS ⟨x.g,x.b⟩≠0:=hE
 have e0:(HS ⟨x.g,x.b⟩==0)=false:=by simpa using hE
 refine⟨⟨h.1,h.2,hE⟩,λ_=>?_,λhc=>?_⟩
 ·have e:dryM x=(default,HS x):=by unfold dryM;rw[show (HS x==0)=false from e0];rfl
  rw[e];exact⟨rfl,rfl,rfl⟩
 ·exact hE (by simpa using hc)
theorem DTB:AM Try.prog CYE (C_Dry.spec dGB):=Ctr.spec_ok (C:=C_Dry) (λ(x:GB) h=>by
 have h:preB x:=(show preB x/\True from h).1
 by_cases hE:HS x=0
 ·exact Mj (A:=DML) (L:=[]) (keep:=[]) (ren:=[]) (fz:=[]) CZE (by kernel_rfl) (AB BNK (AB BFL (AB (BEQ CQM CNL) AG))) (DWD x h hE)
 ·exact Mj (A:=DOS) (L:=[]) (keep:=[]) (ren:=[]) (fz:=[]) CZE (by kernel_rfl) (AB BSM (AB BFL (AB (BEQ CQM CNL) AG))) (DVN x h hE)) _
end Go.Bal

namespace Go.Bal
open Go Go.Sym Go.Proofs
def C_isKnot:Ctr:={ C_line with val:=λ(s:List Gau)=>.bool (!(GZ s).2) }
def CHT(s:List Gau):Prop:=BG Try.prog (ann 12 [(BSL,C_line.spec dGsK)]) BPH (AL BPH) (C_isKnot.xs s) (AF []) (C_isKnot.val s) [] [] []
abbrev zS:=@Prod.snd Ln Bool
abbrev pA a:=GZ (BU a)
abbrev Vk a:=Jb (λi=>XK i (BU a) (UE i))
abbrev Hs a:=Cs (OE a)
attribute [go_sem] zS pA Vk Hs
theorem CSH(s:List Gau):(CHT s)=(And (AY (CY s) (DD s) (Hs s) (Vk s)) (XJ (not (zS (GZ s))) (zS (pA s)))):=by kernel_rfl
structure GG where
 a:Gau
 b:Gau
def dGG:List AVal->Option GG
 |[.d (.agg [.v (.int .i64 a),.v (.int .i64 b),.v (.int .i64 c)]),.d (.agg [.v (.int .i64 p),.v (.int .i64 q),.v (.int .i64 r)])]=>some ⟨⟨a,b,c⟩,⟨p,q,r⟩⟩
 |_=>none
def xGG(a:GG):List AVal:=[.d (eGau a.a),.d (eGau a.b)]
def DMK:=pD dGG λa=>.int (wB a.a.st a.b.st)
def DNQ(a:GG):Prop:=BG Try.prog (ann 10 [(AQE,BKP)]) BQA (AL BQA) (xGG a) (AF []) (.int (wB a.a.st a.b.st)) [] [] []
theorem DSD(a:GG):(DNQ a)=(AI (Gm (EY (GG.a a)) (EY (GG.b a)))):=by kernel_rfl
def srtK(s:List Gau):Nat->Bool
 |0=>true
 |k+1=>bif decide (wB (gD s (k+1)).st (gD s k).st<0) then false else srtK s k
def srtM(s:List Gau):Bool:=srtK s (s.length-1)
def C_sorted:Ctr:={ α:=List Gau,xs:=λs=>[.d (KZ s),.fn (.func zP) [] []],L:=λ_=>[],val:=λs=>.bool (srtM s),keep:=λ_=>[],pre:=λs=>[0<s.length/\s.length<1073741824] }
def CHS:List AVal->Heap->Option (List Gau×List (Nat×Nat)×List Nat)
 |[y,.fn (.func g) [] []],H=>if g=zP then match BLF y H with
  |some (l,f)=>some (l,[],f)
  |none=>none else none
 |_,_=>none
def so2(s:List Gau):Shape:={ α:=Nat,dflt:=0,T:=λk=>⟨[(0,.d (KZ s)),(1,.fn (.func zP) [] []),(5,.int k)],[]⟩,inv:=λk=>k+1<=s.length/\srtM s=srtK s k,meas:=λk=>k }
def CFP(s:List Gau):Ann:={ ann 25 [(zP,DMK)] with loops:=λid=>if id=2 then some [so2 s] else none }
def CHD(s:List Gau):Prop:=BG Try.prog (CFP s) BRI (AL BRI) (C_sorted.xs s) (AF []) (C_sorted.val s) [] [] []
abbrev AVK a:=FA (AU a)
abbrev xK a b:=GV a (AVK b)
abbrev Ck a b:=DI a (FZ b)
abbrev nD a b:=DX a (HV b)
attribute [go_sem] AVK xK Ck nD
theorem CTL(s:List Gau):(CHD s)=(KF (λi=>AH (AH (BY s) (BR s) (GV i (FA (HV s)))) (KQ (JF i) s) (JB (srtM s) (srtK s i))) (λi=>EC (MW (JF i) (CW s) (JB (srtM s) (srtK s i))) (Gb (AU i)) (BF (Be (Cm i s) (AVK i) (nD (AVK i) s)) (Ga (Gm (DI s i) (Ck s (AVK i)))) (HM (srtM s)) (LA (λj=>Ki (AH (BY s) (BR s) (xK j i)) (JF j) (CW s) (JB (srtM s) (srtK s j)) j i))) (DR (srtM s)))):=by kernel_rfl
structure GK where
 g:List Gau
 k:List Int
def dGK:List AVal->Heap->Option (GK×List (Nat×Nat)×List Nat)
 |[x,y],H=>match BLF x H,W2 y H with
  |some (l,f),some (m,e)=>some (⟨l,m⟩,[],f ++ e)
  |_,_=>none
 |_,_=>none
def xGK(a:GK):List AVal:=[.d (KZ a.g),.d (FE a.k)]
def nmL(a:GK):List Gau:=a.k.map λi=>gD a.g i.toNat
def nmOk(a:GK):Bool:=bif Sx a.k.length 2 3 then a.k.all λx=>Sx x 0 (wr (a.g.length-1)) else false
def nmB(s:List Gau):Bool:=bif srtM s then decide ((gD s 0).st<(gD s (s.length-1)).st) else false
def nmM(a:GK):List Gau×Bool:=bif nmOk a then (nmL a,nmB (nmL a)) else ([],false)
def C_named:Ctr:={ α:=GK,xs:=xGK,L:=λ_=>[],val:=λa=>.tup [.d (KZ (nmM a).1),.bool (nmM a).2],keep:=λ_=>[],pre:=λa=>[a.g.length<1073741824/\a.k.length<1073741824] }
def nm5n(a:GK):Shape:={ α:=One,dflt:=default,T:=λ_=>⟨[(2,.bptr 200 0),(6,.d TE),(20,.d (FE a.k)),(21,.int a.k.length),(22,.int 0)],[(200,.live (.box [.d (KZ a.g)]))]⟩,inv:=λ_=>nmOk a=true,meas:=λ_=>a.k.length+1,first:=[(200,1000)] }
def nm5o(a:GK):Shape:={ α:=GsK,dflt:=default,T:=λx=>⟨[(2,.bptr 200 0),(6,.own 201 3 0 x.l.length),(20,.d (FE a.k)),(21,.int a.k.length),(22,.int x.i)],[(200,.live (.box [.d (KZ a.g)])),(201,.live (rowG x.l))]⟩,inv:=λx=>nmOk a=true/\1<=x.i/\x.i<=a.k.length/\x.l=(a.k.take x.i).map λi=>gD a.g i.toNat,meas:=λx=>a.k.length-x.i,again:=[(201,8096)] }
def nm9(a:GK):Shape:={ α:=One,dflt:=default,T:=λ_=>⟨[(6,.d (KZ (nmL a)))],[]⟩,inv:=λ_=>nmOk a=true,meas:=λ_=>0,ffz:=[201] }
def CPF(a:GK):Ann:={ ann 52 [(n_in,s_in),(n_eI,C4In.spec d4In),(BSC,C_sorted.spec CHS)] with mt:=λid=>id==7,loops:=λid=>if id=5 then some [nm5n a,nm5o a] else none,cut:=λid=>if id=9 then some [nm9 a] else none }
def CPX(a:GK):Prop:=BG Try.prog (CPF a) BYM (AL BYM) (C_named.xs a) (AF []) (C_named.val a) [] [] []
abbrev NW:=GK.k
abbrev SF:=GK.g
abbrev BDC:=@Prod.snd (List Gau) Bool
abbrev BCO:=@List.map Int Gau
abbrev AKM a:=(@Prod.fst (List Gau) Bool) (nmM a)
abbrev VR a b:=CE a (HV b)
abbrev lL a:=VF 0 a
abbrev Q9 a:=DR (nmOk a)
abbrev T2 a:=FW (BX a)
abbrev yL a b c d e f g h:=AP a b c d e f g a h
abbrev lG a b:=BJ a (BX b)
abbrev vP:=Jr 3
abbrev vC a:=BU (SF a)
abbrev Qp a:=DG (NW a)
attribute [go_sem] NW SF BDC BCO AKM VR lL Q9 T2 yL lG vP vC Qp
theorem CYI(a:GK):(CPX a)=(BF (GC (not (not (Sx (ER (NW a)) 2 3))) (HX (AW (Qp a) (NW a)) (AS (Qp a) (NW a)) (CY (SF a)) (DD (SF a)) (CG (SF a) (vC a)) (AT (SF a) (vC a)) (HP (Qp a)) FI)) (OK (not (Sx (ER (NW a)) 2 3)) (not (CHB (Qp a) (λi=>bC i (vC a))))) (Um (gX (AKM a)) (HM (BDC (nmM a)))) (HG (Kl (HX AQ BK (GU (NW a)) (GI (NW a)) (RL (NW a)) CL (BY (SF a)) (BR (SF a))) (Q9 a)) (Ip (λi=>FF (Q9 a) 0 (ER (NW a)) (AH (Tb 0 (NW a)) (BB (VR (BJ (NW a) 0) (SF a)) (Hg 3) vP Ir Hf (UQ 24)) (Vh (λj=>JO (ZH (yL (gN j) (GU (NW a)) (GI (NW a)) (RL (NW a)) (GV (BX j) (ED 0)) (BY (SF a)) (BR (SF a)) (AK (λk=>Jg k (HU j) (Ck (SF a) (Wb (NW a) 0)) (SF a) (FZ (Wb (NW a) 0)))))) (AY (Q9 a) (T2 j) (JU (BX j) (NW a)) (Cv j (BCO (λk=>FX (SF a) (FZ k)) (yV (BX j) (NW a))))) (BN (NW a)) (BX j) (Dq (NW a))))) (Kl (BLT (gX (nmL a))) (Q9 a)))) (C1 (λi=>CX (AY (Q9 a) (T2 i) (JU (BX i) (NW a)) (Cv i (BCO (λj=>FX (SF a) (FZ j)) (yV (BX i) (NW a))))) (BX i) (ER (NW a)) (AH (Nj (BX i) (NW a)) (BB (VR (lG (NW a) i) (SF a)) (And (BY (HU i)) (GQ 0 (HU i) hZ)) vP Fp (RV (Uu i)) (UQ (Me (Uu i) 24))) (Vh (λj=>HR (ZH (yL (iP j i) (GU (NW a)) (GI (NW a)) (RL (NW a)) (AV (BX j) (BX i)) (BY (SF a)) (BR (SF a)) (AK (λk=>Vj k (HU j) k (Ke k i (Zu i k) (Ck (SF a) (lG (NW a) i))) (Ke k i (DZ (HU i) k) (DZ (SF a) (FZ (lG (NW a) i)))) (Ke k i (DY (HU i) k) (DY (SF a) (FZ (lG (NW a) i)))))))) (AY (Q9 a) (T2 j) (JU (BX j) (NW a)) (Cv j (BCO (λk=>FX (SF a) (FZ k)) (yV (BX j) (NW a))))) (BN (NW a)) (BX j) (BX i)))) (ZY (λj=>HG (uB (nmL a) i) (KQ (BP (xM i)) (HU i)) (AK (λk=>Jg k (nmL a) (Zu i (BP k)) (HU i) (BP k))) (Q9 a))))) (Ip (λi=>GC (nmOk a) (AJ (AY (CY (nmL a)) (DD (nmL a)) (lL (BU (nmL a))) (Hs (nmL a))) (And (GC (srtM (BU (nmL a))) (VR 0 (nmL a))) (GC (srtM (BU (nmL a))) (VR (FA (HV (nmL a))) (nmL a)))) (CG (AKM a) (nmL a)) (AT (AKM a) (nmL a)) (TU (BDC (nmM a)) (srtM (BU (nmL a))) (JD (DI (nmL a) xA) (Ck (nmL a) (FA (HV (nmL a))))))))))):=by kernel_rfl
def AEV(a:GK):Int:=bif GN a.g==0 then (bif (nmM a).2 then 0 else 2) else GN a.g
def AOM(a:GK):Bool:=bif AEV a==0 then !(GZ (nmM a).1).2 else false
def C_Knot:Ctr:={ α:=GK,xs:=xGK,L:=λ_=>[],val:=λa=>.tup [.bool (AOM a),.int (AEV a)],keep:=λ_=>[],pre:=λa=>[a.g.length<1073741824/\a.k.length<1073741824] }
def CVV:Ann:=ann 24 [(ALW,C_Check.spec xY),(BNE,C_named.spec dGK),(AIF,C_isKnot.spec dGsK)]
def CZJ(a:GK):Prop:=BG Try.prog CVV CJL (AL CJL) (C_Knot.xs a) (AF []) (C_Knot.val a) [] [] []
abbrev BBA a b:=GK.mk (vC a) (Qp b)
abbrev cL a b:=AKM (BBA a b)
abbrev Hb a:=Cs (BN a)
attribute [go_sem] BBA cL Hb
theorem DHR(a:GK):(CZJ a)=(RA (ON (CY (SF a)) (DD (SF a)) (OE (SF a))) (Mi (vC a)) (And (HM (AOM a)) (AO (AEV a) (Mi (vC a)))) (KM (BB (CY (SF a)) (DD (SF a)) (AW (Qp a) (NW a)) (AS (Qp a) (NW a)) (Hs (SF a)) (Hb (Qp a))) (BDC (nmM (BBA a a))) (And (HM (AOM a)) (AO (AEV a) 2)) (AH (AY (CY (cL a a)) (DD (cL a a)) (Hs (cL a a)) (Vk (cL a a))) (XJ (AOM a) (zS (pA (cL a a)))) (BE (AEV a))))):=by kernel_rfl
theorem BHQ:AM Try.prog AIF (C_isKnot.spec dGsK):=WY C_isKnot (λ_=>ann 12 [(BSL,C_line.spec dGsK)]) [] [] CTP (λ_=>by kernel_rfl) (λ_=>AB CQO AG) (λ(s:List Gau) h=>by
 show CHT s;rw[CSH]<;> delta JB AR AK BO CI AO DJ EY GW CW FX Jb zS AH NX NY AJ AZ BU DI DY BC DZ DN GQ ID HC HY YB AY CG HN GH GM CR AT DD CY QE XK OE Cs UE pA Hs XJ Vk;simp only[CC,eq_self,implies_true,forall_const];exact h) (λ_=>YE rfl rfl) _
theorem hGG(xs:List AVal)(a:GG)(h:dGG xs=some a):xs=xGG a:=by
 unfold dGG at h;split at h<;>cases h;rfl
theorem DPT:AM Try.prog zP DMK:=Hv xGG hGG λa _=>Mj (A:=ann 10 [(AQE,BKP)]) (ren:=[]) (fz:=[]) CRY (by kernel_rfl) (AB BXK AG) (by
 show DNQ a;rw[DSD]<;> delta AO EY Gm AI)
theorem CTA:AM Try.prog BSC (C_sorted.spec CHS):=WY C_sorted CFP [] [] CTM (λ_=>by kernel_rfl) (λ_=>AB DPT AG) (λ(s:List Gau) h=>by
 show CHD s;rw[CTL]<;> delta JB Oz NE Kq AR AK BO CI AO AU EA DV JD DJ DX LA QJ Pp FZ SG EY GW Gm CW FX AH AZ EV AI BI DI DY LI BC DZ GQ JF HE EU QL UW GV BY CK HV FK DR CE OH MW EC BF ES FA KQ HO BR HM KF Ck Gb nD Cm AVK Be Ga Ki xK;simp only[CC,eq_self,implies_true,forall_const]
 obtain⟨h1,h2⟩:0<s.length/\s.length<1073741824:=h
 refine⟨⟨s.length-1,by rw[JC (by omega) (by omega)];omega,by omega,rfl⟩,λk ⟨hk1,hk2⟩=>⟨λhlt=>?_,λhge=>?_⟩⟩
 ·obtain⟨k,rfl⟩:∃n,k=n+1:=⟨k-1,by omega⟩
  have e:IntKind.i64.wrap (((k+1:Nat):Int)-1)=(k:Nat):=by rw[JC (by omega) (by omega)];omega
  rw[e,Int.toNat_natCast]
  unfold srtK at hk2
  refine⟨⟨⟨by omega,by omega⟩,by omega,by omega⟩,λhc=>?_,λhc=>⟨k,rfl,⟨by omega,?_⟩,by omega⟩⟩
  ·rw[hk2,decide_eq_true hc];rfl
  ·rw[hk2,decide_eq_false hc];rfl
 ·rw[hk2,show k=0 by omega];rfl) (λ_=>YE rfl rfl) _
theorem BMQ{a:GK}(hg:a.g.length<1073741824)(h:nmOk a=true):2<=a.k.length/\a.k.length<=3/\∀x∈a.k,0<=x/\x<a.g.length:=by
 unfold nmOk at h
 cases hc:Sx a.k.length 2 3 with
 |false=>rw[hc] at h;cases h
 |true=>
  rw[hc] at h
  have h:(a.k.all λx=>Sx x 0 (wr (a.g.length-1)))=true:=h
  unfold Sx at hc
  simp only[Bool.and_eq_true,decide_eq_true_eq] at hc
  refine⟨by omega,by omega,λx hx=>?_⟩
  have:=List.all_eq_true.1 h x hx
  unfold Sx wr at this
  rw[JC (by omega) (by omega)] at this
  simp only[Bool.and_eq_true,decide_eq_true_eq] at this
  omega
theorem DHE(a:GK)(h1:a.g.length<1073741824)(h2:a.k.length<1073741824):CPX a:=by
 rw[CYI]<;> delta JB hd5 Oz NE Kq AR AK BO CI AO AU UH EA DV JD DJ DX OP IS FI QJ FZ SG Pg BN BJ JN ZY Ip Me tC EY GW yV CW FX CHB BLB Vh HU BX C1 NW SF BDC BCO AH LY NX LX NY AJ AZ EV AI DG BU BI FJ BLT Um DK AP DI DY LI ED BC DZ EZ yL DN GQ JA JF HE ER ID HC EU AW QL Dh HY AQ BP GY HL UW GU AY CG GV IA Gk Dq BY BB CK HV KC VQ BD DR CE FG EN GH OH Mm Ce EC AV AS BK BF ES FU FA GC KQ FF Vj MC GM HO Jg VF FW JO BR GJ GI CR CX HJ NT Ji Wb AT Nw ZI Bo CL UQ Fb DD CY HR Xl xA HG OE Jr HP MK Cs JU Qp RD RL Cv HM Ht HX RV Fp VR vC Je El bC xM Hf OK uB Uu Ir Ck AUV AKM Hs Hg ZH TU Ke Kl Tb Nj Zu lG Q9 lL iP T2 vP hZ gN gX;simp only[CC,eq_self,implies_true,forall_const]
 have hk:∀{i:Nat},nmOk a=true->i<a.k.length->0<=gD a.k i/\gD a.k i<a.g.length:=λh hi=>(BMQ h1 h).2.2 _ (HI hi)
 have hl:∀i,((a.k.take i).map λi=>gD a.g i.toNat).length<=a.k.length:=λi=>by simp;omega
 have hnl:(nmL a).length=a.k.length:=by unfold nmL;simp
 refine⟨λ_=>by omega,λhb=>?_,λhb=>⟨⟨⟨default,?_⟩,λhn=>⟨λhlt=>⟨⟨by omega,by omega⟩,⟨hk hn (by omega),by omega,by omega,by omega,by omega,by omega⟩,⟨1,[gD a.g (gD a.k 0).toNat]⟩,⟨rfl,rfl,rfl,λi hi=>?_⟩,⟨hn,by show 0<1;omega,by show 1<=_;omega,?_⟩,by show a.k.length-1<_;omega⟩,λhge=>?_⟩,λx ⟨hn,x1,x2,x3⟩=>⟨λhlt=>⟨⟨by omega,by omega⟩,⟨hk hn (by omega),by omega,λh=>(by cases h),?_,?_⟩,⟨x.i+1,x.l ++ [gD a.g (gD a.k x.i).toNat]⟩,⟨by simp,(FN (by omega)).symm,by simp,CGD _ _⟩,⟨hn,by show 0<x.i+1;omega,by show x.i+1<=_;omega,?_⟩,by show a.k.length-(x.i+1)<_;omega⟩,λhge=>⟨default,?_,hn⟩⟩⟩,λhn=>?_⟩⟩
 ·have e:nmOk a=false:=by
   unfold nmOk
   cases hc:Sx a.k.length 2 3 with
   |false=>rfl
   |true=>rw[hc] at hb;simpa using hb
  have:nmM a=([],false):=by unfold nmM;rw[e];rfl
  rw[this];exact⟨rfl,rfl,rfl⟩
 ·unfold nmOk
  cases hc:Sx a.k.length 2 3 with
  |false=>rw[hc] at hb;cases hb
  |true=>rw[hc] at hb;simpa using hb
 ·have hi:i<1:=hi
  rw[show i=0 by omega];exact⟨rfl,rfl,rfl⟩
 ·show [gD a.g (gD a.k 0).toNat]=(a.k.take 1).map _
  rw[WX (by omega:0<a.k.length)];rfl
 ·have:=BMQ h1 hn;omega
 ·have:=hl x.i;rw[<-x3] at this;omega
 ·have:=hl x.i;rw[<-x3] at this;omega
 ·show x.l ++ _=(a.k.take (x.i+1)).map _
  rw[WX (by omega:x.i<a.k.length),List.map_append,x3];rfl
 ·have:x.l=nmL a:=by rw[x3,List.take_of_length_le (by omega)];rfl
  rw[this];exact⟨rfl,Nat.le_refl _,λ_ _=>⟨rfl,rfl,rfl⟩⟩
 ·have:=BMQ h1 hn
  have e:nmM a=(nmL a,nmB (nmL a)):=by unfold nmM;rw[hn];rfl
  rw[e,JC (by omega) (by omega)]
  refine⟨⟨by omega,by omega⟩,⟨λ_=>⟨by omega,by omega⟩,λ_=>⟨by omega,by omega⟩⟩,rfl,λ_ _=>⟨rfl,rfl,rfl⟩,?_⟩
  rw[show ((nmL a).length-1:Int).toNat=(nmL a).length-1 by omega];rfl
theorem CHH:AM Try.prog BNE (C_named.spec dGK):=WY C_named CPF [] [] CUB (λ_=>by kernel_rfl) (λ_=>AB X3 (AB DTH (AB CTA AG))) (λ(a:GK) h=>DHE a h.1 h.2) (λ_=>YE rfl rfl) _
theorem DCM{a:GK}(hg:∀g∈a.g,Oy g)(h1:a.g.length<1073741824):(nmM a).1.length<1073741824/\∀g∈(nmM a).1,Oy g:=by
 unfold nmM
 cases hc:nmOk a with
 |false=>exact⟨by show 0<_;omega,λg hg=>by cases hg⟩
 |true=>
  have:=BMQ h1 hc
  refine⟨by show (nmL a).length<_;unfold nmL;rw[List.length_map];omega,λg hgm=>?_⟩
  have hgm:g∈nmL a:=hgm
  unfold nmL at hgm
  obtain⟨x,hx,rfl⟩:=List.mem_map.1 hgm
  have:=this.2.2 x hx
  exact hg _ (HI (by omega))
theorem eY{g:List Gau}(h:GN g=0):(1<=g.length/\g.length<=24)/\∀x∈g,Oy x:=by
 unfold GN at h
 cases h2:Sx g.length 1 24 with
 |false=>rw[h2] at h;cases h
 |true=>
  rw[h2] at h
  cases h3:g.all riG with
  |false=>rw[h3] at h;cases h
  |true=>
   unfold Sx at h2
   simp only[Bool.and_eq_true,decide_eq_true_eq] at h2
   refine⟨by omega,λx hx=>?_⟩
   have:=List.all_eq_true.1 h3 x hx
   unfold riG Sx at this
   simp only[Bool.and_eq_true,decide_eq_true_eq] at this
   unfold Oy;omega
theorem DHG:AM Try.prog CJH (C_Knot.spec dGK):=WY C_Knot (λ_=>CVV) [] [] DGJ (λ_=>by kernel_rfl) (λ_=>AB AGW (AB CHH (AB BHQ AG))) (λ(a:GK) h=>by
 show CZJ a;rw[DHR]<;> delta JB Oz AR AK BO CI AO DV DJ FI Gi BN BJ JN EY GW CW FX Jb Mi zS NW SF BDC AH LY NX LX NY AJ AZ DG BU DI DY BC DZ EZ DN GQ JA ID HC AW HY YB HL AY CG IA BB KC BD HN FG EN GH AS BF GM BE CR AT DD CY QE XK OE Cs UE Qp PK HM vC KM pA VS ON AKM Hs BBA RA Hb XJ cL Vk;simp only[CC,eq_self,implies_true,forall_const]
 obtain⟨h1,h2⟩:a.g.length<1073741824/\a.k.length<1073741824:=h
 refine⟨by omega,λhc=>?_,λhc=>⟨⟨h1,h2⟩,λhn=>?_,λhn=>?_⟩⟩
 ·have e0:(GN a.g==0)=false:=by simpa using hc
  have e:AEV a=GN a.g:=by unfold AEV;rw[e0];rfl
  have e2:AOM a=false:=by unfold AOM;rw[e,e0];rfl
  exact⟨e2,e⟩
 all_goals
  have c0:GN a.g=0:=by simpa using hc
  have e0:(GN a.g==0)=true:=by simpa using hc
 ·have e:AEV a=2:=by unfold AEV;rw[e0,show (nmM a).2=false from hn];rfl
  have e2:AOM a=false:=by unfold AOM;rw[e];rfl
  exact⟨e2,e⟩
 ·have e:AEV a=0:=by unfold AEV;rw[e0,show (nmM a).2=true from hn];rfl
  have e2:AOM a=!(GZ (nmM a).1).2:=by unfold AOM;rw[e];rfl
  exact⟨DCM (eY c0).2 h1,e2,e⟩) (λ_=>YE rfl rfl) _
end Go.Bal
