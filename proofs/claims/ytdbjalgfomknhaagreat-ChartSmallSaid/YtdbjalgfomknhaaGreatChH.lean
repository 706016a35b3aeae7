/- Package chart: spans joined; times parted. -/
import Derived.Test.YtdbjalgfomknhaaGreatChG2
set_option linter.unusedVariables false
set_option linter.unusedSimpArgs false
namespace Go.Bal
open Go Go.Sym Go.Proofs
structure Hul where
 s:Span
 m:Bool
 deriving Inhabited
def hlB(h:Hul):AObj:=.box [.int h.s.lo,.int h.s.hi,.bool h.m]
def Na(h:Hul)(s:Span):Hul:=⟨⟨bif h.m then QC s.lo h.s.lo else s.lo,bif h.m then HJ s.hi h.s.hi else s.hi⟩,true⟩
structure HuS where
 h:Hul
 s:Span
def CQX(H:Heap)(id:Nat):Option Hul:=match H id with
 | .live (.box [.d a,.d b,.d c])=>some ⟨⟨KN a,KN b⟩,DCJ c⟩
 |_=>none
def dHuS:List AVal->Heap->Option (HuS×List (Nat×Nat)×List Nat)
 |[.bptr id _,.d s],H=>match CQX H id with
  |some h=>some (⟨h,bV s⟩,[(100,id)],[])
  |none=>none
 |_,_=>none
def C_hadd:Ctr:={ α:=HuS,xs:=λa=>[.bptr 100 0,.d (MV a.s)],L:=λa=>[(100,hlB a.h)],val:=λ_=>.d (.tup []),keep:=λa=>[(100,.live (hlB (Na a.h a.s)))] }
def CDR:Ann:={ ann 32 [] with E:=[100] }
def CHR(a:HuS):Prop:=ES Try.prog CDR BQK (AJ BQK) (C_hadd.xs a) (AD (C_hadd.L a)) (C_hadd.val a) (C_hadd.keep a) [] []
abbrev bC:=Hul.m
abbrev AHU:=HuS.h
abbrev Ti:=Hul.s
abbrev AEA:=HuS.s
abbrev wZ a b:=Ti (Na a b)
attribute [go_sem] bC AHU Ti AEA wZ
theorem CNR(a:HuS):(CHR a)=(FV (bC (AHU a)) (AH (BD (wZ (AHU a) (AEA a)) (iC (BH (AEA a)) (BH (Ti (AHU a))))) (BC (wZ (AHU a) (AEA a)) (Md (BK (AEA a)) (BK (Ti (AHU a))))) IU) (AH (AZ (wZ (AHU a) (AEA a)) (AEA a)) (AQ (wZ (AHU a) (AEA a)) (AEA a)) IU)):=by kernel_rfl
theorem BIA:AW Try.prog ASY (C_hadd.spec dHuS):=Je C_hadd (λ_=>CDR) [] [] CIZ (λ_=>by kernel_rfl) (λ_=>AK) (λ(a:HuS) _=>by
 show CHR a;rw[CNR]<;> delta MD BH BK AY FV Md iC LW bC AHU Ti AEA AH BC GJ AQ BD AZ IU wZ;simp only[CC,eq_self,implies_true,forall_const]
 refine⟨λh=>?_,λh=>?_⟩<;>· unfold Na;rw[h];exact⟨rfl,rfl⟩) (λ_=>Kp rfl rfl) _
def bU(h:Hul):Span×Int:=bif h.m then (h.s,0) else (⟨0,0⟩,5)
def dHu1:List AVal->Heap->Option (Hul×List (Nat×Nat)×List Nat)
 |[.bptr id _],H=>match CQX H id with
  |some h=>some (h,[(100,id)],[])
  |none=>none
 |_,_=>none
def C_who:Ctr:={ ro:=[100],α:=Hul,xs:=λ_=>[.bptr 100 0],L:=λh=>[(100,hlB h)],val:=λh=>.tup [.d (MV (bU h).1),.int (bU h).2],keep:=λh=>[(100,.live (hlB h))] }
def CSH:Ann:={ ann 14 [] with E:=[100] }
def CRX(h:Hul):Prop:=ES Try.prog CSH BFZ (AJ BFZ) (C_who.xs h) (AD (C_who.L h)) (C_who.val h) (C_who.keep h) [] []
abbrev sN:=@Prod.fst Span Int
abbrev zY:=@Prod.snd Span Int
abbrev Zs a:=zY (bU a)
abbrev aS a:=sN (bU a)
attribute [go_sem] sN zY Zs aS
theorem CYX(h:Hul):(CRX h)=(EZ (not (bC h)) (UO (aS h)) (AI (WH (aS h)) (AY (Zs h) 5) (BZ (Ti h)) (IS (Ti h)) (GJ (bC h))) (Bq (AZ (aS h) (Ti h)) (AQ (aS h) (Ti h)) (FG (Zs h)) (BZ (Ti h)) (IS (Ti h)) (GJ (bC h)))):=by kernel_rfl
theorem BPH:AW Try.prog AIO (C_who.spec dHu1):=Je C_who (λ_=>CSH) [] [] CHH (λ_=>by kernel_rfl) (λ_=>AK) (λ(h:Hul) _=>by
 show CRX h;rw[CYX]<;> delta MD BH BK AY FV bC Ti sN zY AH AI BC AF GJ AQ BZ BD AZ IS FG EZ UO WH aS Bq Zs;simp only[CC,eq_self,implies_true,forall_const]
 refine⟨λq=>?_,λq=>?_⟩<;>· unfold bU;rw[q];exact⟨rfl,rfl,rfl⟩) (λ_=>Kp rfl rfl) _
structure DkQ where
 w:Dk
 l:List Span
 k:Int
 a:Int
 b:Int
def parM(l:List Span)(k a b:Int)(i:Nat):Span:=⟨bif decide (i=k.toNat)&&decide (k<l.length) then HJ (gD l i).lo b else (gD l i).lo,bif decide (k>0)&&decide (i=(k-1).toNat) then QC (gD l i).hi a else (gD l i).hi⟩
def V3(l:List Span)(k a b:Int):List Span:=NK l.length (parM l k a b)
def dDkQ:List AVal->Heap->Option (DkQ×List (Nat×Nat)×List Nat)
 |[.bptr id _,y,.d k,.d a,.d b],H=>match ADS H id,rJ y H with
  |some (w,q),some (l,f)=>some (⟨w,l,KN k,KN a,KN b⟩,[(100,id),(101,q)],f)
  |_,_=>none
 |_,_=>none
def C_part:Ctr:={ ro:=[100,101],α:=DkQ,xs:=λa=>[.bptr 100 0,.d (HA a.l),.int a.k,.int a.a,.int a.b],L:=λa=>dkL a.w,val:=λa=>.d (HA (V3 a.l a.k a.a a.b)),keep:=λa=>dkK a.w,pre:=λa=>[(1<=a.l.length/\a.l.length<=40)/\0<=a.k/\a.k<=a.l.length] }
def BZZ:Ann:={ ann 45 [(AII,C_clo.spec dSs1)] with E:=[100,101] }
def CGM(a:DkQ):Prop:=ES Try.prog BZZ BAD (AJ BAD) (C_part.xs a) (AD (C_part.L a)) (C_part.val a) (C_part.keep a) [] [2016]
abbrev AVB:=DkQ.l
abbrev tZ:=DkQ.k
abbrev Cs a:=BN (DkQ.w a)
abbrev Zj a b:=WO (AVB a) b
abbrev E1 a b:=Zj a (BG b)
abbrev Vv a b c d:=V3 (AVB a) (tZ b) (DkQ.a c) (DkQ.b d)
abbrev Bc a:=OM (AVB a)
abbrev gH a b c:=BC (OV a b) c
abbrev Gn a b c d:=NU (BG a) b c d
abbrev bP a:=ZX (tZ a)
abbrev dO a b c:=BD (OV a b) c
abbrev X6 a:=ZN (tZ a)
abbrev fV a:=ZX (X6 a)
attribute [go_sem] AVB tZ Cs Zj E1 Vv Bc gH Gn bP dO X6 fV
theorem COI(a:DkQ):(CGM a)=(HV (Kd (Bc a) (AVB a)) (AB (λi=>Sy i (AVB a) (Zj a i) (AVB a))) (SN (Bc a)) (MI (Bc a)) (EZ (WB (tZ a) 0) (WY (X6 a) (Bc a) (GT (fV a) (Bc a) (HZ (X6 a) (Bc a)) (XZ (X6 a) (Bc a)))) (EZ (NL (tZ a) (CG (Bc a))) (WY (tZ a) (Bc a) (GT (bP a) (Bc a) (HZ (tZ a) (Bc a)) (XZ (tZ a) (Bc a)))) (CR (KX (Vv a a a a) (Bc a)) (KC (Bc a)) (λi=>QQ i (Vv a a a a) (dO (Vv a a a a) i (Gn i (bP a) (Md (YD (bP a) (X6 a) (BH (Zj a (fV a))) (BH (Zj a (bP a)))) (DkQ.b a)) (Gn i (fV a) (BH (Zj a (fV a))) (BH (E1 a i))))) (gH (Vv a a a a) i (Gn i (bP a) (YD (bP a) (X6 a) (gG (Zj a (fV a)) (DkQ.a a)) (BK (Zj a (bP a)))) (Gn i (fV a) (gG (Zj a (fV a)) (DkQ.a a)) (BK (E1 a i)))))) (BY (Cs a)) (DF (Cs a)) (BM (Cs a)) (BV (Cs a)) (BQ (Cs a)) (XA (Cs a) (DkQ.w a))) (CR (KX (Vv a a a a) (Bc a)) (KC (Bc a)) (λi=>QQ i (Vv a a a a) (dO (Vv a a a a) i (Gn i (fV a) (BH (Zj a (fV a))) (BH (E1 a i)))) (gH (Vv a a a a) i (Gn i (fV a) (gG (Zj a (fV a)) (DkQ.a a)) (BK (E1 a i))))) (BY (Cs a)) (DF (Cs a)) (BM (Cs a)) (BV (Cs a)) (BQ (Cs a)) (XA (Cs a) (DkQ.w a)))) (EZ (NL (tZ a) (CG (Bc a))) (WY (tZ a) (Bc a) (GT (bP a) (Bc a) (HZ (tZ a) (Bc a)) (XZ (tZ a) (Bc a)))) (CR (KX (Vv a a a a) (Bc a)) (KC (Bc a)) (λi=>QQ i (Vv a a a a) (dO (Vv a a a a) i (Gn i (bP a) (aJ (Zj a (bP a)) (DkQ.b a)) (BH (E1 a i)))) (gH (Vv a a a a) i (Gn i (bP a) (BK (Zj a (bP a))) (BK (E1 a i))))) (BY (Cs a)) (DF (Cs a)) (BM (Cs a)) (BV (Cs a)) (BQ (Cs a)) (XA (Cs a) (DkQ.w a))) (CR (KX (Vv a a a a) (Bc a)) (KC (Bc a)) (λi=>UG i (Vv a a a a) (E1 a i)) (BY (Cs a)) (DF (Cs a)) (BM (Cs a)) (BV (Cs a)) (BQ (Cs a)) (XA (Cs a) (DkQ.w a)))))):=by kernel_rfl
theorem zP(l:List Span)(k a b:Int):(V3 l k a b).length=l.length:=rng_length _ _
theorem BUN:AW Try.prog AIR (C_part.spec dDkQ):=Je C_part (λ_=>BZZ) [] [2016] BWP (λ_=>by kernel_rfl) (λ_=>AA BOO AK) (λ(a:DkQ) h=>by
 obtain⟨⟨h1,h2⟩,h3,h4⟩:(1<=a.l.length/\a.l.length<=40)/\0<=a.k/\a.k<=a.l.length:=h
 have e:IntKind.i64.wrap (a.k-1)=a.k-1:=Ap (by omega) (by omega)
 have gj:∀{j:Nat},j<a.l.length->gD (V3 a.l a.k a.a a.b) j=parM a.l a.k a.a a.b j:=λhj=>FF _ _ _ hj
 have t:(a.k-1).toNat=a.k.toNat-1:=by omega
 show CGM a;rw[COI]<;> delta MD BH BK DY RD RU Mr EM EO CH IH AB CJ CE AY OV CG CW FV NL HD KA Md iC EB FX EC GY GX GR GG DV FO FU Me WB HM IV YU KM WU ED NR BN YV WT WW AVB tZ AH CK AX AI BC AV AF BI GJ AQ BB AC BZ CN Eh BF AE AO BD DD AZ DC BG BR BE BS BJ JQ Ch BQ LY BV ZK Yv BL BM CY BY CF BX TV KL NU YS DN GD OT OR Cx LH Av DF OU HG QQ LR Gi ZX ZN ZS CR EZ GT EX OM HU WO JG GP HQ XK VX KX JC VI Cs LS FT VW TF TO SN HZ XP RL VU KC HV MI Dv Gn Cp Bc Kd XA XZ Zj X6 Sy YD WY UG bP fV Vv aJ gG dO gH E1;simp only[CC,eq_self,implies_true,forall_const,e,zP,t]
 refine⟨⟨by omega,by omega⟩,λhk=>⟨⟨⟨by omega,by omega⟩,by omega,⟨by omega,by omega⟩,by omega⟩,λhl=>⟨⟨⟨by omega,by omega⟩,by omega,⟨by omega,by omega⟩,by omega⟩,Nat.le_refl _,λj hj=>?_⟩,λhl=>⟨Nat.le_refl _,λj hj=>?_⟩⟩,λhk=>⟨λhl=>⟨⟨⟨by omega,by omega⟩,by omega,⟨by omega,by omega⟩,by omega⟩,Nat.le_refl _,λj hj=>?_⟩,λhl=>by omega⟩⟩
 ·rw[gj hj];unfold parM;rw[t]
  have q0:¬ a.k.toNat=a.k.toNat-1:=by omega
  by_cases q1:j=a.k.toNat
  ·subst q1
   simp[hk,hl,q0]
  ·by_cases q2:j=a.k.toNat-1
   ·simp only[decide_eq_false q1,decide_eq_true q2,decide_eq_true hk,Bool.false_and,Bool.and_self,cond_true,cond_false]
    rw[q2];exact⟨rfl,rfl⟩
   ·simp[hk,q1,q2]
 ·rw[gj hj];unfold parM;rw[t]
  by_cases q2:j=a.k.toNat-1
  ·simp only[decide_eq_true q2,decide_eq_true hk,decide_eq_false hl,Bool.and_false,Bool.and_self,cond_true,cond_false]
   rw[q2];exact⟨rfl,rfl⟩
  ·simp[hl,q2]
 ·rw[gj hj];unfold parM;rw[t]
  by_cases q1:j=a.k.toNat
  ·subst q1
   simp[hk,hl]
  ·simp[hk,q1]) (λ_=>Kp rfl rfl) _
structure DkW where
 w:Dk
 l:List Span
 a:Int
 b:Int
 x:Int
 y:Int
def winL(l:List Span)(a b x y:Int):List Span:=V3 (V3 l a (wr (x-1)) x) (wr (b+1)) y (wr (y+1))
def dDkW:List AVal->Heap->Option (DkW×List (Nat×Nat)×List Nat)
 |[.bptr id _,y,.d k,.d a,.d b,.d c],H=>match ADS H id,rJ y H with
  |some (w,q),some (l,f)=>some (⟨w,l,KN k,KN a,KN b,KN c⟩,[(100,id),(101,q)],f)
  |_,_=>none
 |_,_=>none
def C_win:Ctr:={ ro:=[100,101],α:=DkW,xs:=λa=>[.bptr 100 0,.d (HA a.l),.int a.a,.int a.b,.int a.x,.int a.y],L:=λa=>dkL a.w,val:=λa=>.d (HA (winL a.l a.a a.b a.x a.y)),keep:=λa=>dkK a.w,pre:=λa=>[(1<=a.l.length/\a.l.length<=40)/\(0<=a.a/\a.a<a.l.length)/\0<=a.b/\a.b<a.l.length] }
def CSW:Ann:={ ann 29 [(AIR,C_part.spec dDkQ)] with E:=[100,101] }
def CRU(a:DkW):Prop:=ES Try.prog CSW AZM (AJ AZM) (C_win.xs a) (AD (C_win.L a)) (C_win.val a) (C_win.keep a) [] []
abbrev tE:=DkW.l
abbrev zC:=DkW.a
abbrev M5:=DkW.x
abbrev M4:=DkW.w
abbrev AKO:=DkW.b
abbrev AEG:=DkW.y
abbrev SF a:=BN (M4 a)
abbrev ALL a b c d:=V3 (Av a) b c d
abbrev O4 a b c d:=ALL a b (ZN c) d
abbrev Y4 a b c:=O4 a b c c
abbrev lJ a b c d e f g:=BB a b c d (BM e) (BV e) (BQ e) f g
abbrev Ir a b c d e:=lJ a b (BY c) (DF c) c d e
attribute [go_sem] tE zC M5 M4 AKO AEG SF ALL O4 Y4 lJ Ir
theorem CXD(a:DkW):(CRU a)=(HV (RJ (tE a)) (Fa (tE a)) (AF (zC a)) (Ir (AF (ZN (M5 a))) (AF (M5 a)) (SF a) (BW (SF a)) (Hp (SF a) (λi=>AT i (SF a) (AM (SF a) i) (AN (SF a) i) (AS (SF a) i) (AC (SF a) i) (AL (SF a) i) (AR (SF a) i) (AE (SF a) i)) (Ui (M4 a)) (HQ (M4 a)) (Bh (λi=>AU i (SF a) (EI (SF a) i) (EJ (SF a) i) (AC (SF a) i) (AS (SF a) i) (EH (SF a) i) (AE (SF a) i) (AR (SF a) i)) (λi=>JG i (M4 a)) (SF a) (HQ (M4 a)) (YP (OM (tE a)) 40) (BX (zC a)) (Hr (zC a) (OM (tE a)))))) (CR (FY (RJ (Y4 (tE a) (zC a) (M5 a))) (Fa (Y4 (tE a) (zC a) (M5 a))) (AF (HR (AKO a))) (Ir (AF (AEG a)) (AF (HR (AEG a))) (SF a) (BW (SF a)) (Hp (SF a) (λi=>AT i (SF a) (AM (SF a) i) (AN (SF a) i) (AS (SF a) i) (AC (SF a) i) (AL (SF a) i) (AR (SF a) i) (AE (SF a) i)) (Ui (M4 a)) (HQ (M4 a)) (Bh (λi=>AU i (SF a) (EI (SF a) i) (EJ (SF a) i) (AC (SF a) i) (AS (SF a) i) (EH (SF a) i) (AE (SF a) i) (AR (SF a) i)) (λi=>JG i (M4 a)) (SF a) (HQ (M4 a)) (YP (OM (Y4 (tE a) (zC a) (M5 a))) 40) (BX (HR (AKO a))) (Hr (HR (AKO a)) (OM (Y4 (tE a) (zC a) (M5 a)))))))) (ML (winL (tE a) (zC a) (AKO a) (M5 a) (AEG a)) (ALL (Y4 (tE a) (zC a) (M5 a)) (HR (AKO a)) (AEG a) (HR (AEG a)))) (λi=>Io i (winL (tE a) (zC a) (AKO a) (M5 a) (AEG a)) (ALL (Y4 (tE a) (zC a) (M5 a)) (HR (AKO a)) (AEG a) (HR (AEG a)))) (BY (SF a)) (DF (SF a)) (BM (SF a)) (BV (SF a)) (BQ (SF a)) (XA (SF a) (M4 a)))):=by kernel_rfl
theorem CZQ:AW Try.prog AZG (C_win.spec dDkW):=Je C_win (λ_=>CSW) [] [] BVP (λ_=>by kernel_rfl) (λ_=>AA BUN AK) (λ(a:DkW) h=>by
 obtain⟨⟨h1,h2⟩,⟨h3,h4⟩,h5,h6⟩:(1<=a.l.length/\a.l.length<=40)/\(0<=a.a/\a.a<a.l.length)/\0<=a.b/\a.b<a.l.length:=h
 have e:IntKind.i64.wrap (a.b+1)=a.b+1:=Ap (by omega) (by omega)
 show CRU a;rw[CXD]<;> delta MD BH BK DY RD RU Mr EM EO CH IH AB CJ CE AY OV CG CW HD UI EB FX EC GY GX GR GG DV FO FU Me YU KM WU BN YV WT tE zC M5 M4 AKO AEG AH CK IW AX JE AI BC AV AF IK IN BI GJ AQ JB BB AC BZ CN Eh BF AE AO BD HK DD AZ DC BR BE BS BJ JQ Ch AR BQ LY BV HF ZK CI OC EQ Yv BL AS BM CY Oc BY CF IE HR BX TV KL CU YS GD CX OT OR Cx OE LH Av DF DU HY DR OU HG OD QQ SF Ql LR Gi KQ FW Qe AT ZN HE OF CR WK OM NF RG Fs AU DO WO BO BW JG AL AN AM GP ID HQ XK VX Ct NP MQ KX JC MN DK VI LS SC FT QD Eb TF TO KS HS Gr XP EH EJ EI RL FY ML Fo Eo Do JL IA Ha TE HV Fh Ff Dv MF WJ Gw Cp VZ YP Kd RJ XA Hr Sy Io Kt Gd Lx Fa Jt lJ ALL Ir Xd O4 Ui Xb Y4 Vw Hp Bh;simp only[CC,eq_self,implies_true,forall_const];simp only[zP]
 refine⟨⟨⟨by omega,h2⟩,h3,by omega⟩,⟨⟨by omega,h2⟩,by omega,by omega⟩,?_⟩
 have:winL a.l a.a a.b a.x a.y=V3 (V3 a.l a.a (IntKind.i64.wrap (a.x-1)) a.x) (IntKind.i64.wrap (a.b+1)) a.y (IntKind.i64.wrap (a.y+1)):=rfl
 rw[this];simp only[zP]
 simp) (λ_=>Kp rfl rfl) _
def BMB(s:Span):Prop:=ES Try.prog (ann 5 []) AYD (AJ AYD) (xS1 s) (AD []) (.int s.lo) [] [] []
theorem BWG(s:Span):(BMB s)=(BZ s):=by kernel_rfl
def BMH:=pD dS1 λs=>.int s.lo
def BSS(s:Span):Prop:=ES Try.prog (ann 5 []) BHY (AJ BHY) (xS1 s) (AD []) (.int s.hi) [] [] []
theorem CCP(s:Span):(BSS s)=(IS s):=by kernel_rfl
def BRQ:=pD dS1 λs=>.int s.hi
def C_least:Ctr:={ α:=One,xs:=λ_=>[],val:=λ_=>.agg [.fn (.func pO) [] []],keep:=λ_=>[] }
def dN0c:List AVal->Heap->Option (One×List (Nat×Nat)×List Nat)
 |[],_=>some (default,[],[])
 |_,_=>none
def C_most:Ctr:={ α:=One,xs:=λ_=>[],val:=λ_=>.agg [.fn (.func L7) [] []],keep:=λ_=>[] }
def BUP(x:One):Prop:=ES Try.prog (ann 2 []) BGV (AJ BGV) [] (AD []) (C_least.val x) [] [] []
theorem BXT(x:One):(BUP x)=(IP):=by kernel_rfl
def CCU(x:One):Prop:=ES Try.prog (ann 2 []) BOD (AJ BOD) [] (AD []) (C_most.val x) [] [] []
theorem COE(x:One):(CCU x)=(IP):=by kernel_rfl
theorem BVZ:AW Try.prog pO BMH:=cC xS1 hS1 λx _=>Wk (A:=ann 5 []) (ren:=[]) (fz:=[]) BXC (by kernel_rfl) AK (by
 show BMB x;rw[BWG]<;> delta BH AY AF BZ;try simp)
theorem BXX:AW Try.prog L7 BRQ:=cC xS1 hS1 λx _=>Wk (A:=ann 5 []) (ren:=[]) (fz:=[]) CHQ (by kernel_rfl) AK (by
 show BSS x;rw[CCP]<;> delta BK AY BC AQ IS;try simp)
theorem CEX:AW Try.prog BHV (C_least.spec dN0c):=Je C_least (λ_=>ann 2 []) [] [] CHE (λ_=>by kernel_rfl) (λ_=>AK) (λ(x:One) _=>by
 show BUP x;rw[BXT]<;> delta IP;try simp) (λ_=>Kp rfl rfl) _
theorem CJL:AW Try.prog BQO (C_most.spec dN0c):=Je C_most (λ_=>ann 2 []) [] [] CMZ (λ_=>by kernel_rfl) (λ_=>AK) (λ(x:One) _=>by
 show CCU x;rw[COE]<;> delta IP;try simp) (λ_=>Kp rfl rfl) _
def gLo(l:List Span):Int:=(l.map (·.lo)).foldl HJ (gD l 0).lo
def gHi(l:List Span):Int:=(l.map (·.hi)).foldl HJ (gD l 0).hi
def C_grL:Ctr:={ α:=List Span,xs:=λl=>[.agg [.fn (.func pO) [] []],.d (HA l)],val:=λl=>.int (gLo l),keep:=λ_=>[],pre:=λl=>[0<l.length/\l.length<1073741824] }
def C_grH:Ctr:={ α:=List Span,xs:=λl=>[.agg [.fn (.func L7) [] []],.d (HA l)],val:=λl=>.int (gHi l),keep:=λ_=>[],pre:=λl=>[0<l.length/\l.length<1073741824] }
def CSL:List AVal->Heap->Option (List Span×List (Nat×Nat)×List Nat)
 |[.agg [.fn (.func f) _ _],y],H=>if f=pO then match rJ y H with
  |some (l,f)=>some (l,[],f)
  |none=>none else none
 |_,_=>none
def CSI:List AVal->Heap->Option (List Span×List (Nat×Nat)×List Nat)
 |[.agg [.fn (.func f) _ _],y],H=>if f=L7 then match rJ y H with
  |some (l,f)=>some (l,[],f)
  |none=>none else none
 |_,_=>none
def gr3(l:List Span)(v:AVal)(f:List Int):Shape:={ α:=NI,dflt:=default,T:=λs=>⟨[(2,.bptr 201 0),(5,.int s.m),(14,.d (HA l)),(15,.int l.length),(16,.int s.k)],[(201,.live (.box [v]))]⟩,inv:=λs=>s.k<=l.length/\s.m=(f.take s.k).foldl HJ (gD f 0),meas:=λs=>l.length-s.k,first:=[(201,1000)] }
def CRK(l:List Span):Ann:={ ann 28 [(pO,BMH)] with loops:=λid=>if id=3 then some [gr3 l (.fn (.func pO) [] []) (l.map (·.lo))] else none }
def COO(l:List Span):Prop:=ES Try.prog (CRK l) rU (AJ rU) (C_grL.xs l) (AD []) (C_grL.val l) [] [] []
abbrev AKY:=@List.foldl Int Int
abbrev nV:=@List.map Span Int
abbrev Q6:=@List.take Int
attribute [go_sem] AKY nV Q6
theorem CWC(l:List Span):(COO l)=(TQ WZ 0 (IH l) (ADW (λi=>SY (Dy (Qd i) (VG l Cn) (SK l) (RE l) (EF (IH l)) (CQ (RO i))) (CW (RO i) (IH l)) (Qd i) (AKY Md (FS (nV BH l) 0) (Q6 (RO i) (nV BH l))))) (AYL (λi=>XL (KH (RO i) (IH l) (AY (Qd i) (AKY Md (FS (nV BH l) 0) (Q6 (RO i) (nV BH l))))) (RO i) (IH l) (CL (RO i) (IH l) (ADW (λj=>IF (Dy (Qd j) (Md (Qd i) (VG l (RO i))) (SK l) (RE l) (EF (IH l)) (BA (RO j) (RO i))) (KH (RO j) (IH l) (AY (Qd j) (AKY Md (FS (nV BH l) 0) (Q6 (RO j) (nV BH l))))) (IH l) (RO j) (RO i)))) (AY (gLo l) (Qd i))))):=by kernel_rfl
def CSJ(l:List Span):Ann:={ ann 28 [(L7,BRQ)] with loops:=λid=>if id=3 then some [gr3 l (.fn (.func L7) [] []) (l.map (·.hi))] else none }
def CPG(l:List Span):Prop:=ES Try.prog (CSJ l) rU (AJ rU) (C_grH.xs l) (AD []) (C_grH.val l) [] [] []
theorem CZB(l:List Span):(CPG l)=(TQ WZ 0 (IH l) (ADW (λi=>SY (Dy (Qd i) (XB l Cn) (SK l) (RE l) (EF (IH l)) (CQ (RO i))) (CW (RO i) (IH l)) (Qd i) (AKY Md (FS (nV BK l) 0) (Q6 (RO i) (nV BK l))))) (AYL (λi=>XL (KH (RO i) (IH l) (AY (Qd i) (AKY Md (FS (nV BK l) 0) (Q6 (RO i) (nV BK l))))) (RO i) (IH l) (CL (RO i) (IH l) (ADW (λj=>IF (Dy (Qd j) (Md (Qd i) (XB l (RO i))) (SK l) (RE l) (EF (IH l)) (BA (RO j) (RO i))) (KH (RO j) (IH l) (AY (Qd j) (AKY Md (FS (nV BK l) 0) (Q6 (RO j) (nV BK l))))) (IH l) (RO j) (RO i)))) (AY (gHi l) (Qd i))))):=by kernel_rfl
theorem BTS{f:Span->Int}{l:List Span}(h:0<l.length):gD (l.map f) 0=f (gD l 0):=BOQ f h
theorem CUK:AW Try.prog C8 (C_grL.spec CSL):=Je C_grL CRK [] [] AUY (λ_=>by kernel_rfl) (λ_=>AA BVZ AK) (λ(l:List Span) h=>by
 obtain⟨h1,h2⟩:0<l.length/\l.length<1073741824:=h
 show COO l;rw[CWC]<;> delta BH BK RD RU CH IH AB CJ CE AY OV CG CW FV NL HD KA UI Md IG FS ADW Qd RO AYL HM AKY nV Q6 AH AI BC AV AF BI AQ BZ BF JQ IS EQ BL FL HR BX DN QQ DT FE SK MJ DX EX JJ BA ZR HW JH ZP FK Bt EF TQ KH CQ CL RE JY Cn IF PY VG SY WZ Dy XL;simp only[CC,eq_self,implies_true,forall_const,Int.toNat_zero]
 refine⟨⟨by omega,by omega⟩,⟨⟨0,(gD l 0).lo⟩,⟨rfl,rfl⟩,Nat.zero_le _,by rw[BTS h1];rfl⟩,λs ⟨s1,s2⟩=>⟨λhlt=>⟨by omega,⟨s.k+1,HJ s.m (gD l s.k).lo⟩,⟨rfl,(II (by omega)).symm⟩,⟨by show s.k+1<=_;omega,?_⟩,by show l.length-(s.k+1)<_;omega⟩,λhge=>?_⟩⟩
 ·show HJ s.m (gD l s.k).lo=_
  rw[xR (by simp;omega),List.foldl_append,<-s2,BOQ _ (by omega)];rfl
 ·rw[s2,List.take_of_length_le (by simp;omega),BTS h1];rfl) (λ_=>Kp rfl rfl) _
theorem CWJ:AW Try.prog C8 (C_grH.spec CSI):=Je C_grH CSJ [] [] AUY (λ_=>by kernel_rfl) (λ_=>AA BXX AK) (λ(l:List Span) h=>by
 obtain⟨h1,h2⟩:0<l.length/\l.length<1073741824:=h
 show CPG l;rw[CZB]<;> delta BH BK RD RU CH IH AB CJ CE AY OV CG CW FV NL HD KA UI Md IG FS ADW Qd RO AYL HM AKY nV Q6 AH AI BC AV AF BI AQ BZ BF JQ IS EQ BL FL HR BX DN QQ DT FE SK MJ DX EX JJ BA ZR HW JH ZP FK Bt EF TQ KH CQ CL RE JY Cn IF PY XB SY WZ Dy XL;simp only[CC,eq_self,implies_true,forall_const,Int.toNat_zero]
 refine⟨⟨by omega,by omega⟩,⟨⟨0,(gD l 0).hi⟩,⟨rfl,rfl⟩,Nat.zero_le _,by rw[BTS h1];rfl⟩,λs ⟨s1,s2⟩=>⟨λhlt=>⟨by omega,⟨s.k+1,HJ s.m (gD l s.k).hi⟩,⟨rfl,(II (by omega)).symm⟩,⟨by show s.k+1<=_;omega,?_⟩,by show l.length-(s.k+1)<_;omega⟩,λhge=>?_⟩⟩
 ·show HJ s.m (gD l s.k).hi=_
  rw[xR (by simp;omega),List.foldl_append,<-s2,BOQ _ (by omega)];rfl
 ·rw[s2,List.take_of_length_le (by simp;omega),BTS h1];rfl) (λ_=>Kp rfl rfl) _
end Go.Bal
