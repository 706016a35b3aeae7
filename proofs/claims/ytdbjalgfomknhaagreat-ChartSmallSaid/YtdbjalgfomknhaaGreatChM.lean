/- Package chart: Holds. -/
import Derived.Test.YtdbjalgfomknhaaGreatChL
import Derived.Test.YtdbjalgfomknhaaGreatChJ
set_option linter.unusedVariables false
set_option linter.unusedSimpArgs false
namespace Go.Bal
open Go Go.Sym Go.Proofs
structure CT where
 c:Cht
 t:Tru
def CSA:AVal->Heap->Option (Tru×List Nat)
 | .d (.agg [.list _ n f _,.list _ m g _,.list _ k h _]),_=>some (⟨NK n λi=>KN (f i),NK m λi=>KN (g i),NK k λi=>KN (h i)⟩,[])
 | .agg [x,y,z],H=>match tL x H,tL y H,tL z H with
  |some (l,f1),some (m,f2),some (k,f3)=>some (⟨l,m,k⟩,f1 ++ f2 ++ f3)
  |_,_,_=>none
 |_,_=>none
def dCT:List AVal->Heap->Option (CT×List (Nat×Nat)×List Nat)
 |[x,y],H=>match tN x H,CSA y H with
  |some (c,f),some (t,e)=>some (⟨c,t⟩,[],f ++ e)
  |_,_=>none
 |_,_=>none
def xCT(x:CT):List AVal:=[.d (Nj x.c),.d (eTru x.t)]
def hJ(x:CT):CZ:=⟨x.c,x.t.z⟩
def hd1(x:CT)(i:Nat):Bool:=PN (gD x.t.t i) (gD (Ov x.c) i).lo (gD (Ov x.c) i).hi&&PN (gD x.t.s i) (YW x.c i).lo (YW x.c i).hi
def hdN(x:CT):Nat->Bool
 |0=>true
 |k+1=>hdN x k&&hd1 x k
def hg1(x:CT)(g:Nat):Bool:=PN (wr (gD x.t.t (g+1)-gD x.t.t g)) (OG (FZ (hJ x)) g).lo (OG (FZ (hJ x)) g).hi
def hgN(x:CT):Nat->Bool
 |0=>true
 |k+1=>hgN x k&&hg1 x k
def inT(l:List Int):Bool:=l.all λa=>PN a (-100000000) 100000000
def hldO(x:CT):Bool×Int:=bif decide (x.t.t.length=x.c.ms.length/\x.t.s.length=x.c.ms.length) then bif inT x.t.t then (hdN x x.c.ms.length&&hgN x (x.c.ms.length-1),0) else (false,4) else (false,2)
def Qs(x:CT):Bool×Int:=bif XV (hJ x)==0 then hldO x else (false,XV (hJ x))
def C_hold:Ctr:={ α:=CT,xs:=xCT,val:=λx=>.tup [.bool (Qs x).1,.int (Qs x).2],keep:=λ_=>[],pre:=λx=>[(x.c.ms.length<4611686018427387904/\x.c.ns.length<4611686018427387904/\x.t.z.length<4611686018427387904)/\x.t.t.length<4611686018427387904/\x.t.s.length<4611686018427387904] }
def hdH(x:CT):List (Nat×HCell):=[(201,.live (.box [.d (GB x.t.t),.d (GB x.t.s),.d (GB x.t.z)])),(202,.live (.box [.d (.v (.bool false))])),(203,.live (.box [.d (.v (.int .i64 0))])),(204,.live (dkB (FZ (hJ x)) 205)),(205,.live (dkM (FZ (hJ x))))]
def hdS:List (Nat×AVal):=[(3,.bptr 201 0),(4,.bptr 202 0),(5,.bptr 203 0),(6,.bptr 204 0)]
def hd11(x:CT):Shape:={ α:=Nat,dflt:=0,T:=λk=>⟨hdS ++ [(9,.d (HA (Ov x.c))),(48,.int x.c.ms.length),(49,.int k)],hdH x⟩,inv:=λk=>k<=x.c.ms.length/\hdN x k=true,meas:=λk=>x.c.ms.length-k,first:=[(201,1016),(202,1032),(203,1048),(204,2048),(205,2049)] }
def hgS(x:CT)(l k:Nat):List (Nat×AVal):=[(0,.fn (.yield l) [] []),(1,.bptr 18016 0),(12,.int (wr ((x.c.ms.length:Int)-1))),(13,.int k)]
def hg1s(x:CT)(l:Nat):Shape:={ α:=Nat,dflt:=0,T:=λk=>⟨hgS x l k,hdH x ++ [(18016,.live (.box [.bptr 204 0]))]⟩,inv:=λk=>k<=x.c.ms.length-1/\hgN x k=true,meas:=λk=>50-k }
noncomputable def CRH(x:CT):IterAnn:={ fn:=mK,code:=AJ mK,live:=[3,4,5],ann:={ base:=λid=>100000+1000*(id+1),Γ:=Sym.look [],E:=[201,202,203,204,205,18016],n:=66,inner:=λgs id=>if id=1 then some [hg1s x (gs.getD 0 0)] else none } }
noncomputable def CHL(x:CT):Ann:={ ann 108 [(Zw,C_beg.spec B6),(n_eI,C4Ih.spec d4Ih),(AIF,C_not.spec sX),(S4,C_stg.spec dDkI),(n_in,s_in),(AMK,C_gaps.spec sX)] with iter:=λg=>if g=bO then some (CRH x) else none,loops:=λid=>if id=11 then some [hd11 x] else none }
def BYM(x:CT):Prop:=ES Try.prog (CHL x) ALJ (AJ ALJ) (xCT x) (AD []) (.tup [.bool (Qs x).1,.int (Qs x).2]) [] [] []
abbrev DW:=CT.c
abbrev kY a:=Wg (Qs a)
abbrev Xt a b c d:=pR a (kY b) c d
abbrev Vd a:=Ua (Qs a)
abbrev rH a:=FG (Vd a)
abbrev Uv a b c:=KH a b (EA c)
abbrev aQ a:=AX (DW a)
abbrev FC a:=LX (hJ a)
abbrev Ys a:=Tru.z (CT.t a)
abbrev bG a:=Ak (Ys a)
abbrev aM a:=Ge (Ys a)
abbrev L1 a:=Tru.s (CT.t a)
abbrev Zo a b:=Py a (L1 b)
abbrev aH a:=Ge (L1 a)
abbrev tA a:=Tru.t (CT.t a)
abbrev aV a b:=Py a (tA b)
abbrev Zr a:=Ge (tA a)
abbrev ZC a b:=FS (tA a) b
abbrev Iu a:=FP (tA a)
abbrev Tb a b c:=AH a b (EA c)
abbrev qM a:=cD (DW a)
abbrev dZ a b:=FS (L1 a) b
abbrev Uw a b:=IT (not a) b
abbrev sP a:=FP (L1 a)
abbrev xE a b:=CW a (aQ b)
abbrev BFB a b c:=ADZ (SZ a b) (WV c c)
abbrev OP a:=BFB (DW a) (DW a) (Ys a)
abbrev oR a b:=XT a (WQ b)
abbrev qG a b:=oR (FQ a) b
abbrev Uo a b:=qG (DW a) (Ys b)
abbrev lG a b:=QR (CG a) b
abbrev jP a b:=lG a (MZ (DW b))
abbrev Vq a b c d:=MO a (DF b) c d
abbrev Ag a b:=Vq (BY a) a a b
abbrev qO a b:=AE (DW a) b
abbrev sD a b:=AR (DW a) b
abbrev oB a b:=AL (DW a) b
abbrev Kz a b:=AC (DW a) b
abbrev pG a b:=AS (DW a) b
abbrev qW a b:=AN (DW a) b
abbrev sI a b:=AM (DW a) b
abbrev vZ a:=DK (DW a)
attribute [go_sem] DW kY Xt Vd rH Uv aQ FC Ys bG aM L1 Zo aH tA aV Zr ZC Iu Tb qM dZ Uw sP xE BFB OP oR qG Uo lG jP Vq Ag qO sD oB Kz pG qW sI vZ
theorem CKV(x:CT):(BYM x)=(And (Ag (DW x) (YJ (DW x) (BW (DW x)) (vZ x) (λi=>AT i (DW x) (sI x i) (qW x i) (pG x i) (Kz x i) (oB x i) (sD x i) (qO x i)) (HL (Ys x)) (λi=>QE i (Ys x)) (Dl (RQ (DW x)) (DW x) (PG (Ys x))) (SA (DW x)))) (Xt (Sg (Uo x x)) x (Xa (Vd x) (Uo x x)) (Xt (KE (jP (Iu x) x) (jP (sP x) x)) x (Yo (Vd x)) (HV (HL (tA x)) (QW (tA x)) (PG (tA x)) IP (Xt (not (hd92 (WQ (tA x)) Pm)) x (AY (Vd x) 4) (LF (Ga (OP x) (Hp (OP x) (λi=>AT i (OP x) (AM (OP x) i) (AN (OP x) i) (AS (OP x) i) (AC (OP x) i) (AL (OP x) i) (AR (OP x) i) (AE (OP x) i)) (AB (λi=>XD i (Uo x x))) (Hk (Uo x x)) (Bh (λi=>AU i (OP x) (EI (OP x) i) (EJ (OP x) i) (AC (OP x) i) (AS (OP x) i) (EH (OP x) i) (AE (OP x) i) (AR (OP x) i)) (λi=>XD i (Uo x x)) (OP x) (Hk (Uo x x)) (Ci (OP x)) (ZB (OP x)) (KM (λi=>Ro (WK (OP x) i) i (OP x)))))) (KI (λi=>DT (ML (qM x) (cD (FQ (OP x)))) (JA (XQ (qM x) (cD (FQ (OP x)))) (Kn (DW x)) (CQ i) (Zr x) (λj=>aV j x) (aH x) (λj=>Zo j x) (aM x) (BB (bG x) Hy BP (GM (FC x) (OP x)) (CY (FC x) (OP x)) (GO (FC x) (OP x)) (GH (FC x) (OP x)) (GK (FC x) (OP x)) (Fw (VK (FC x) (OP x)) (VH (FC x) (OP x)) (XF (FC x) (OP x)) (λj=>AU j (FC x) (PT (FC x) j (OP x)) (Gu (FC x) j (OP x) j) (AC (FC x) j) (AC (OP x) j) (Er (FC x) j (OP x) j) (AE (FC x) j) (AE (OP x) j)) (λj=>Jw j (Dc (hJ x) j) (Dc (Uo x x) j)) LR (λj=>Hv (FC x) j (OP x) j) (λj=>Ul (hJ x) j (Yk (Uo x x) j)) (λj=>Gs (FC x) j (OP x) j j j)))) (xE i x) (EA (hdN x i)))) (λi=>PY (Uv i (aQ x) (hdN x i)) (FK i (MZ (DW x))) (AH (Jv (EF i) (BY (FC x)) (FC x) (BM (FC x)) (BV (FC x)) (BQ (FC x)) (UZ (FC x) (λj=>AT j (FC x) (AM (FC x) j) (AN (FC x) j) (AS (FC x) j) (AC (FC x) j) (AL (FC x) j) (AR (FC x) j) (AE (FC x) j)) (λj=>XD j (hJ x)) (Ko (hJ x)) (QG (MF (FC x)) (BY (FC x)) (FC x) (BM (FC x)) (BV (FC x)) (BQ (FC x)) (HS (FC x)) (λj=>JL j (FC x)) (VP (FC x) (λj=>AU j (FC x) (EI (FC x) j) (EJ (FC x) j) (AC (FC x) j) (AS (FC x) j) (EH (FC x) j) (AE (FC x) j) (AR (FC x) j)) (λj=>XD j (hJ x)) (Hk (hJ x)) (DX i) (Jz i (HK (FC x))))))) (CL i (Iu x) (YX (NJ i (IH (qM x))) (Uw (ZO (ZC x i) (VG (qM x) i) (XB (qM x) i)) (NJ i (sP x))))) (Xt (KE (ZO (ZC x i) (VG (qM x) i) (XB (qM x) i)) (ZO (dZ x i) (Eu (FQ (FC x)) i) (Hg (FQ (FC x)) i))) x (rH x) (KI (λj=>FH (SK (qM x)) (JA (RE (qM x)) (Kn (DW x)) (BA j i) (Zr x) (λk=>aV k x) (aH x) (λk=>Zo k x) (aM x) (Ru (bG x) Hy BP (FC x) (hJ x))) (Uv j (aQ x) (hdN x j)) (aQ x) j i)))) (HV (BY (FC x)) (DF (FC x)) (BM (FC x)) (ZE (BV (FC x)) (BQ (FC x)) (BW (FC x)) (DK (FC x)) (BO (FC x)) (AB (λj=>AT j (FC x) (AM (FC x) j) (AN (FC x) j) (AS (FC x) j) (AC (FC x) j) (AL (FC x) j) (AR (FC x) j) (AE (FC x) j))) (λj=>XD j (hJ x)) (Aq (TE (FC x)) (Hk (hJ x)) (MF (FC x)) (FC x) (TF (HS (FC x)) (Gc (FC x)) (KS (FC x)) (λj=>AU j (FC x) (EI (FC x) j) (EJ (FC x) j) (AC (FC x) j) (AS (FC x) j) (EH (FC x) j) (AE (FC x) j) (AR (FC x) j)) (λj=>XD j (hJ x)) (WJ (FC x)) (Ko (hJ x)) (VZ (FC x))))) (AB (λj=>HX (λk=>Tb (JA (Fy j) (Ld (Pd (DW x)) (MZ (FC x))) (CQ k) (Zr x) (λl=>aV l x) (aH x) (λl=>Zo l x) (aM x) (Ru (bG x) Hy BP (FC x) (hJ x))) (CW k (WX (aQ x))) (hgN x k)) (λk=>ON (Uv k (WX (aQ x)) (hgN x k)) (FK k (Pd (DW x))) (Gv (FE k) (FC x) (DX k) (cN k (FC x))) (QN k 40 (Xu k) (FV (Dc (hJ x) k) (jD j (YG (FE k) (Iu x) (DX k) (Jz k (Iu x))) (Xt (ZO (LH (ZC x (Ib k)) (ZC x k)) (rB (EC (FC x)) (BE (FC x) (Ib k)) (BE (FC x) k)) 200000000) x (rH x) (KI (λl=>Fv (JA (Fy j) (AF (Pd (DW x))) (BA l k) (Zr x) (λm=>aV m x) (aH x) (λm=>Zo m x) (aM x) (Ru (bG x) Hy BP (FC x) (hJ x))) (Uv l (WX (aQ x)) (hgN x l)) l k)))) (jD j (YG (FE k) (Iu x) (DX k) (Jz k (Iu x))) (Xt (ZO (LH (ZC x (Ib k)) (ZC x k)) (rB (EC (FC x)) (BE (FC x) (Ib k)) (BE (FC x) k)) (Vn (BK (EC (FC x))) (BE (FC x) (Ib k)) (BE (FC x) k))) x (rH x) (KI (λl=>Fv (JA (Fy j) (AF (Pd (DW x))) (BA l k) (Zr x) (λm=>aV m x) (aH x) (λm=>Zo m x) (aM x) (Ru (bG x) Hy BP (FC x) (hJ x))) (Uv l (WX (aQ x)) (hgN x l)) l k)))))) (And (EA (kY x)) (rH x))))))))))))):=by kernel_rfl
def BUK:Ann:=ann 108 [(Zw,C_begX.spec B6)]
def BUB(x:CT):Prop:=ES Try.prog BUK ALJ (AJ ALJ) (xCT x) (AD []) (.tup [.bool false,.int (XV (hJ x))]) [] [] []
theorem CFU(x:CT):(BUB x)=(Ic (Ag (DW x) (YJ (DW x) (BW (DW x)) (vZ x) (λi=>AT i (DW x) (sI x i) (qW x i) (pG x i) (Kz x i) (oB x i) (sD x i) (qO x i)) (HL (Ys x)) (λi=>QE i (Ys x)) (Dl (RQ (DW x)) (DW x) (PG (Ys x))) (fT (DW x)))) (Sg (Uo x x)) Hy (Xa (Yq (hJ x)) (Uo x x)) (EZ (KE (jP (Iu x) x) (jP (sP x) x)) Hy (Yo (Yq (hJ x))) VS)):=by kernel_rfl
theorem CFJ(x:CT):CZ.mk x.c x.t.z=hJ x:=rfl
theorem BNA(x:CT):(hJ x).c=x.c:=rfl
theorem BDL{f g:Nat->Bool}(hf:∀k,f (k+1)=(f k&&g k)):∀{n k:Nat},k<n->g k=false->f n=false
 |0,k,h,_=>absurd h (Nat.not_lt_zero _)
 |n+1,k,h,hg=>by
  rw[hf]
  by_cases e:k=n
  ·subst e;rw[hg,Bool.and_false]
  ·rw[BDL hf (show k<n by omega) hg];rfl
theorem CZR(x:CT)(h1:(x.c.ms.length<4611686018427387904/\x.c.ns.length<4611686018427387904/\x.t.z.length<4611686018427387904)/\x.t.t.length<4611686018427387904/\x.t.s.length<4611686018427387904)(h0:AP x.c=0):BYM x:=by
 have hl:=PR h0
 have hs:=Zu h0
 rw[CKV]<;> delta MD N6 Iv BH BK DY RD RU Mr EM EO CH IH AB CJ CE AY OV CG MY CW FV NL HD KA UI IG EB FX EC GY GX GR GG DV FO FU KI IP FP FS El hd92 LW US HM QR YU KM WU ED BN YV WT Yq Ko Qu Ty cD XT Wg Ua DW AH CK IW AX JE AI LX WE BC AV AF IK IN BI GJ YX AQ WV JB BB AC BZ CN Eh BF ADZ MC AE AO BD HK DD LZ AZ DC BR BE BS BJ JQ Ch AR BQ WQ IS LY SZ BV HF ZK CI OC EQ GQ BL AS BM CY Oc BY ER BFB FL EV CF FC IE HR BX TV KL CU GW YS HO DN GD CX OT OR Cx OE LH FQ DF DU HY IC MZ DR OU HG OD QQ EA Ys Ql DT LR Gi KQ oR HH FE FG FW Qe AT ADY IZ SK MJ JA ZN ZS tA IT DX HE OF Ge CR EZ EX JJ BA ZR BP WK NF RG Fs HT AU DO DI CS WX GZ DZ HU HW BO BW JH JG OP AL AN AM LJ KO GP ID HQ XK VX Ct NP ZP FK MQ KX JC MN DK VI KE Kr JU HL LS Py SC Bt FT EF QD JW Mc GK MH VW XD Eb NV JZ GM GH TF TQ L1 TO KH CQ GO HZ QE KS HS CL Gr XP PT EH EJ EI RE Ig RL Ak FH IL ML Ib Fo Eo Dt JK Do JL IF IA ON Ha HX qG Hd aQ ZO TE HV Hk LF PY VK UC XF NJ Fh Ff Dv MF WJ Gw MG PG VG Cp QW VZ MO Mw XB SA Va Cl RQ ZC Pe Pd UV YG Fp Hf Ci Vd VH Pm kY Fy Iu VQ Vn Aq QN Gt ZB Dl Dc Jz Kz Eu Hg Io Gd Kn QG Lx pR Yk XQ Vq Hy jD Gc YJ Jt Ga Ag Pq Uo lG Ld bG aH Zr Hv rB Zo aM Er aV ZE Fv Xt Gv Gu Uv Tb dZ Wy Uw VP Ru UZ qM Sg rH Jw Xd jP Xb Xu Gs sP Vw Fw Jv Ro cN Hp Ul sI xE qW oB Xa pG Yo sD qO vZ Bh;simp only[CC,eq_self,implies_true,forall_const,FR,Uk,CFJ,BNA,bD,fK]
 have nl:=QM x.c
 have wn:wr ((x.c.ms.length:Int)-1)=((x.c.ms.length-1:Nat):Int):=by unfold wr;rw[Ap (by omega) (by omega)];omega
 have ws:∀a:Nat,a<=40->IntKind.i64.wrap ((a:Int)+1)=((a+1:Nat):Int):=λa h=>by rw[Ap (by omega) (by omega)];rfl
 refine⟨⟨h1.1,h0⟩,λhe=>?_,λhe=>⟨λhn=>?_,λhn=>⟨h1.2.1,λhr=>?_,λhr=>⟨⟨hl.2.1.1,hl.2.1.2,hs.1⟩,⟨0,rfl,Nat.zero_le _,rfl⟩,?_⟩⟩⟩⟩
 ·have e:(XV (hJ x)==0)=false:=by simpa using he
  unfold Qs;rw[e];exact⟨rfl,rfl⟩
 ·have e:(XV (hJ x)==0)=true:=by simpa using he
  have e2:decide (x.t.t.length=x.c.ms.length/\x.t.s.length=x.c.ms.length)=false:=by
   rw[decide_eq_false_iff_not];rintro⟨a1,a2⟩;rw[a1,a2] at hn;simp at hn
  unfold Qs hldO;rw[e,e2];exact⟨rfl,rfl⟩
 ·have e:(XV (hJ x)==0)=true:=by simpa using he
  have e2:x.t.t.length=x.c.ms.length/\x.t.s.length=x.c.ms.length:=by
   cases hq:((x.t.t.length:Int) != x.c.ms.length) with
   |true=>rw[hq] at hn;cases hn
   |false=>
    rw[hq] at hn
    have hn:((x.t.s.length:Int) != x.c.ms.length)=false:=hn
    simp at hq hn;omega
  have e3:inT x.t.t=false:=hr
  unfold Qs hldO;rw[e,decide_eq_true e2,e3];exact⟨rfl,rfl⟩
 ·have e:(XV (hJ x)==0)=true:=by simpa using he
  have e2:x.t.t.length=x.c.ms.length/\x.t.s.length=x.c.ms.length:=by
   cases hq:((x.t.t.length:Int) != x.c.ms.length) with
   |true=>rw[hq] at hn;cases hn
   |false=>
    rw[hq] at hn
    have hn:((x.t.s.length:Int) != x.c.ms.length)=false:=hn
    simp at hq hn;omega
  have e3:inT x.t.t=true:=hr
  have hv:Qs x=(hdN x x.c.ms.length&&hgN x (x.c.ms.length-1),0):=by unfold Qs hldO;rw[e,decide_eq_true e2,e3];rfl
  obtain⟨l1,l2⟩:=e2
  rintro a ⟨ha,hd⟩
  refine⟨λhlt=>⟨⟨by omega,by omega⟩,⟨⟨by omega,by omega⟩,⟨by omega,by rw[nl];omega⟩,⟨by omega,by rw[nl];omega⟩,λ_=>⟨by omega,by omega⟩⟩,λhc=>?_,λhc=>⟨a+1,by rw[ws a (by omega)],⟨by omega,?_⟩,by omega⟩⟩,λhge=>?_⟩
  ·have e5:hd1 x a=false:=by
    unfold hd1
    cases hq:PN (gD x.t.t a) (gD (Ov x.c) a).lo (gD (Ov x.c) a).hi with
    |false=>rfl
    |true=>rw[hq] at hc;simpa using hc
   rw[hv,BDL (f:=hdN x) (g:=hd1 x) (λ_=>rfl) (show a<x.c.ms.length by omega) e5];exact⟨rfl,rfl⟩
  ·have e5:hd1 x a=true:=by
    unfold hd1
    cases hq:PN (gD x.t.t a) (gD (Ov x.c) a).lo (gD (Ov x.c) a).hi with
    |false=>rw[hq] at hc;cases hc
    |true=>rw[hq] at hc;simpa using hc
   show (hdN x a&&hd1 x a)=true
   rw[hd,e5];rfl
  ·obtain rfl:a=x.c.ms.length:=by omega
   refine⟨⟨0,⟨rfl,rfl⟩,Nat.zero_le _,rfl⟩,?_⟩
   rintro g ⟨hg,hgn⟩
   have no:hg1 x g=false->g<x.c.ms.length-1->(Qs x).1=false/\(Qs x).2=0:=λh h2=>by
    rw[hv,BDL (f:=hgN x) (g:=hg1 x) (λ_=>rfl) h2 h,Bool.and_false];exact⟨rfl,rfl⟩
   rw[wn,ws g (by omega)]
   refine⟨λhlt=>⟨⟨⟨by omega,by omega⟩,by omega,by omega⟩,⟨by omega,by omega⟩,by omega,λhp=>⟨⟨⟨by omega,by omega⟩,by omega,by omega⟩,λhc=>no ?_ (by omega),λhc=>⟨g+1,rfl,⟨by omega,?_⟩,by omega⟩⟩,λhp=>⟨⟨⟨by omega,by omega⟩,by omega,by omega⟩,λhc=>no ?_ (by omega),λhc=>⟨g+1,rfl,⟨by omega,?_⟩,by omega⟩⟩⟩,λhge=>?_⟩
   ·unfold hg1 OG;rw[hp];exact hc
   ·have e5:hg1 x g=true:=by unfold hg1 OG;rw[hp];exact hc
    show (hgN x g&&hg1 x g)=true
    rw[hgn,e5];rfl
   ·unfold hg1 OG;rw[hp];exact hc
   ·have e5:hg1 x g=true:=by unfold hg1 OG;rw[hp];exact hc
    show (hgN x g&&hg1 x g)=true
    rw[hgn,e5];rfl
   ·obtain rfl:g=x.c.ms.length-1:=by omega
    rw[hv,hd,hgn];exact⟨rfl,rfl⟩
theorem CAL(x:CT)(h:JS (C_hold.pre x)):FnT Try.prog AXO (C_hold.xs x) (AD (C_hold.L x)) (C_hold.val x) (C_hold.keep x):=by
 have h1:(x.c.ms.length<4611686018427387904/\x.c.ns.length<4611686018427387904/\x.t.z.length<4611686018427387904)/\x.t.t.length<4611686018427387904/\x.t.s.length<4611686018427387904:=h
 by_cases h0:AP x.c=0
 ·exact Wk (A:=CHL x) (L:=[]) (keep:=[]) (ren:=[]) (fz:=[]) BKR (by kernel_rfl) (AA ASO (AA DBP (AA BPE (AA BOZ (AA R9 (AA AKC AK)))))) (CZR x h1 h0) (BMJ bO (CRH x) rfl rfl AK X9 (by kernel_rfl) (by kernel_rfl))
 ·have h0':(AP x.c==0)=false:=by simpa using h0
  have e0:XV (hJ x)=AP x.c:=by unfold XV;rw[BNA,h0'];rfl
  have e9:(XV (hJ x)==0)=false:=by rw[e0];exact h0'
  have e:C_hold.val x=.tup [.bool false,.int (XV (hJ x))]:=by
   show AVal.tup [.bool (Qs x).1,.int (Qs x).2]=_
   unfold Qs;rw[e9];rfl
  rw[e]
  refine Wk (A:=BUK) (L:=[]) (keep:=[]) (ren:=[]) (fz:=[]) BKR (by kernel_rfl) (AA BGC AK) ?_
  show BUB x;rw[CFU]<;> delta MD N6 Iv BH BK DY EM EO CH AB CJ CE AY CG FV EB FX EC GY GX GR GG DV FO FU FP FS El LW US QR VS Yq Rn XT DW AH CK IW AX JE AI WE BC AV AF IK IN GJ AQ WV JB BB AC BZ CN BF MC AE AO BD HK DD LZ AZ DC BR BE BS BJ AR BQ WQ SZ BV HF CI OC GQ AS BM CY BY EV CF IE CU GW HO CX OE FQ DF DU HY IC MZ DR OD Ys oR HH FW AT IZ JA tA OF EZ BO BW AL AN AM LJ KO ID DK KE Kr HL Mc NV L1 QE IL qG UC NQ Ao MG PG MO RQ Iu Dl Kz Vq Hy YJ Ag Uo lG Sg Ic jP sP sI qW fT oB Xa pG Yo sD qO vZ;simp only[CC,eq_self,implies_true,forall_const,FR,CFJ,e0]
  simp[h1,h0]
theorem CJA:AW Try.prog AXO (C_hold.spec dCT):=okT C_hold CAL _
end Go.Bal

namespace Go.Bal
open Go Go.Sym Go.Proofs
def Cw(c:Cht)(g:Nat):Int:=(gD c.ms (g+1)).pl-(gD c.ms g).pl
def gapP(c:Cht)(sp:Nat->Bool)(g:Nat):Span:=⟨c.p.lo*Cw c g,bif sp g then 200000000 else c.p.hi*Cw c g⟩
theorem ChOk.far{c:Cht}(h:ChOk c){g:Nat}(hg:g+1<c.ms.length):1<=Cw c g/\Cw c g<=10000:=by
 have h1:=h.up g hg
 have h2:=h.mks g (by omega)
 have h3:=h.mks (g+1) hg
 unfold Cw;omega
theorem ChOk.gap{c:Cht}(h:ChOk c)(sp:Nat->Bool){g:Nat}(hg:g+1<c.ms.length):(1<=c.p.lo*Cw c g/\c.p.lo*Cw c g<=6000000)/\(c.p.lo*Cw c g<=c.p.hi*Cw c g/\c.p.hi*Cw c g<=6000000)/\(gapP c sp g).lo<=(gapP c sp g).hi:=by
 obtain⟨f1,f2⟩:=h.far hg
 obtain⟨p1,p2,p3⟩:=h.p
 have a1:=mulb (a:=c.p.lo) (b:=Cw c g) (A:=600) (B:=10000) (by omega) (by omega) (by omega) f2
 have a2:=mulb (a:=c.p.hi) (b:=Cw c g) (A:=600) (B:=10000) (by omega) (by omega) (by omega) f2
 have a3:c.p.lo*Cw c g<=c.p.hi*Cw c g:=Int.mul_le_mul_of_nonneg_right p2 (by omega)
 have a4:1*1<=c.p.lo*Cw c g:=Int.mul_le_mul p1 f1 (by omega) (by omega)
 refine⟨by omega,by omega,?_⟩
 show c.p.lo*Cw c g<=bif sp g then 200000000 else c.p.hi*Cw c g
 cases sp g
 ·exact a3
 ·show _<=(200000000:Int);omega
theorem hG{w:Dk}(h:ChOk w.c){g:Nat}(hg:g+1<w.c.ms.length):OG w g=gapP w.c w.sp g:=by
 obtain⟨f1,f2⟩:=h.far hg
 obtain⟨a1,a2,_⟩:=h.gap w.sp hg
 have e:farM w.c g=Cw w.c g:=by unfold farM wr;unfold Cw at *;exact Ap (by omega) (by omega)
 unfold OG gapP
 rw[e]
 unfold wr
 rw[Ap (by omega) (by omega),Ap (by omega) (by omega)]
theorem ABO{w:Dk}(h:ChOk w.c):gpOk (OG w) (w.c.ms.length-1):=λg hg=>by
 obtain⟨a1,a2,a3⟩:=h.gap w.sp (g:=g) (by omega)
 rw[hG h (by omega)]
 refine⟨⟨by show 0<=w.c.p.lo*Cw w.c g;omega,by show w.c.p.lo*Cw w.c g<=_;omega⟩,by have:(gapP w.c w.sp g).lo=w.c.p.lo*Cw w.c g:=rfl;omega,?_⟩
 show (bif w.sp g then 200000000 else w.c.p.hi*Cw w.c g)<=_
 cases w.sp g
 ·show w.c.p.hi*Cw w.c g<=_;omega
 ·show (200000000:Int)<=_;omega
theorem AAG{w:Dk}(h:ChOk w.c):∀g,g<w.c.ms.length-1->(OG w g).lo<=(OG w g).hi:=λg hg=>by
 rw[hG h (by omega)];exact (h.gap w.sp (by omega)).2.2
theorem ADD{c:Cht}(h:ChOk c)(j:Int):nL 100000000 (iK c j)/\(iK c j).lo<=(iK c j).hi:=by
 unfold iK
 cases hj:hasN c.ns j with
 |false=>show nL 100000000 farS/\farS.lo<=farS.hi;exact⟨⟨by decide,by decide⟩,by decide⟩
 |true=>
  obtain⟨hm,_⟩:=rY hj
  have:=(h.nt _ hm).t
  refine⟨?_,this.2.1⟩
  show nL _ (ntOf c.ns j).t
  unfold nL;omega
theorem tG{c:Cht}{i:Nat}(hi:i<c.ms.length):gD (Ov c) i=iK c i:=FF _ _ _ hi
theorem Tr.ext2{l l' s s':Nat->Span}{n:Nat}{t:Nat->Int}(h:Tr l s n t)(h1:∀i,i<=n->l i=l' i)(h2:∀g,g<n->s g=s' g):Tr l' s' n t:=⟨λi hi=>by rw[<-h1 i hi];exact h.at_ i hi,λg hg=>by rw[<-h2 g hg];exact h.gap g hg⟩
def TrC(c:Cht)(sp:Nat->Bool)(t:Nat->Int):Prop:=Tr (λi=>iK c i) (gapP c sp) (c.ms.length-1) t
theorem BDG{w:Dk}(h:ChOk w.c){t:Nat->Int}:Tr (gD (Ov w.c)) (OG w) (w.c.ms.length-1) t↔TrC w.c w.sp t:=by
 have:=h.m
 exact⟨λq=>q.ext2 (λi hi=>tG (by omega)) (λg hg=>hG h (by omega)),λq=>q.ext2 (λi hi=>(tG (by omega)).symm) (λg hg=>(hG h (by omega)).symm)⟩
theorem BIN{c:Cht}(h:ChOk c):∀i,i<(Ov c).length->nL 1000000000 (gD (Ov c) i):=λi hi=>by
 rw[QM] at hi
 rw[tG hi]
 have:=(ADD h i).1
 unfold nL at *;omega
theorem ALH{w:Dk}(h:ChOk w.c):(JD w).2=true↔Mg w.c=true/\∃t,TrC w.c w.sp t:=by
 have hm:=h.m
 have hk:=BPF (w:=w) (l:=Ov w.c) (by rw[QM];omega) (by rw[QM];omega) (BIN h) (by rw[QM];exact ABO h) (by rw[QM];exact AAG h)
 rw[QM] at hk
 unfold JD
 cases hs:Mg w.c with
 |false=>exact⟨λh=>(by cases h),λh=>(by cases h.1)⟩
 |true=>
  show (XS w (Ov w.c)).all Od=true↔_
  rw[hk]
  exact⟨λ⟨t,ht⟩=>⟨rfl,t,(BDG h).1 ht⟩,λ⟨_,t,ht⟩=>⟨t,(BDG h).2 ht⟩⟩
theorem CDF{w:Dk}(h:ChOk w.c)(hk:(JD w).2=true){i:Nat}(hi:i<w.c.ms.length){x:Int}:(gD (JD w).1 i).has x↔∃t,TrC w.c w.sp t/\t i=x:=by
 have hm:=h.m
 obtain⟨hs,t,ht⟩:=(ALH h).1 hk
 have e:(JD w).1=XS w (Ov w.c):=by unfold JD;rw[hs];rfl
 have b1:=ABO h
 have b2:=AAG h
 rw[e,ADK (by rw[QM];omega) (by rw[QM];omega) (BIN h) (by rw[QM];exact b1) (by rw[QM];exact hi),QM]
 rw[BJD b2 ((BAX b2).2 ⟨t,(BDG h).2 ht⟩) (by omega)]
 exact⟨λ⟨t,a,b⟩=>⟨t,(BDG h).1 a,b⟩,λ⟨t,a,b⟩=>⟨t,(BDG h).2 a,b⟩⟩
theorem CBI{w:Dk}(hk:(JD w).2=true){i:Nat}(hi:i<w.c.ms.length):(gD (JD w).1 i).lo<=(gD (JD w).1 i).hi:=by
 unfold JD at hk ⊢
 cases hs:Mg w.c with
 |false=>rw[hs] at hk;cases hk
 |true=>
  rw[hs] at hk
  have hk:(XS w (Ov w.c)).all Od=true:=hk
  exact tS.1 hk i (by rw[We,QM];exact hi)
end Go.Bal

namespace Go.Bal
open Go Go.Sym Go.Proofs
theorem xP(l:List Span)(k a b:Int):(V3 l k a b).length=l.length:=rng_length _ _
theorem CFH{l:List Span}{g:Nat}{a b:Int}{i:Nat}(hi:i<l.length)(hg:g+1<l.length):gD (V3 l ((g:Int)+1) a b) i=⟨bif decide (i=g+1) then HJ (gD l i).lo b else (gD l i).lo,bif decide (i=g) then QC (gD l i).hi a else (gD l i).hi⟩:=by
 unfold V3
 rw[FF _ _ _ hi]
 unfold parM
 have e1:((g:Int)+1).toNat=g+1:=by omega
 have e2:((g:Int)+1-1).toNat=g:=by omega
 rw[e1,e2,decide_eq_true (show (g:Int)+1<l.length by omega),decide_eq_true (show (g:Int)+1>0 by omega),Bool.and_true,Bool.true_and]
theorem BEZ{a:CZ}(h:ChOk a.c)(hr:DJ a=0){i:Nat}(hi:i<a.c.ms.length){x:Int}:(gD (ZJ a) i).has x↔∃t,TrC a.c (FZ a).sp t/\t i=x:=
 CDF (w:=FZ a) h (As hr).2.2 hi
theorem DCT{a:CZ}(hr:DJ a=0){i:Nat}(hi:i<a.c.ms.length):(gD (ZJ a) i).lo<=(gD (ZJ a) i).hi:=CBI (w:=FZ a) (As hr).2.2 hi
theorem TrC.note{c:Cht}{sp:Nat->Bool}{t:Nat->Int}(h:TrC c sp t){i:Nat}(hi:i<c.ms.length):(iK c i).has (t i):=h.at_ i (by omega)
theorem BAS{a:CZ}(h:ChOk a.c)(hr:DJ a=0){i:Nat}(hi:i<a.c.ms.length):nL 100000000 (gD (ZJ a) i):=by
 have hle:=DCT hr hi
 obtain⟨t1,a1,b1⟩:=(BEZ h hr hi).1 ⟨Int.le_refl _,hle⟩
 obtain⟨t2,a2,b2⟩:=(BEZ h hr hi).1 ⟨hle,Int.le_refl _⟩
 have c1:=a1.note hi
 have c2:=a2.note hi
 have d:=(ADD h i).1
 rw[b1] at c1;rw[b2] at c2
 unfold Span.has nL at *;omega
end Go.Bal

namespace Go.Bal
open Go Go.Sym Go.Proofs
theorem Jd(a b:Int):HJ a b=a/\b<=a∨HJ a b=b/\a<=b:=by unfold HJ;split<;>omega
theorem qA(a b:Int):QC a b=a/\a<=b∨QC a b=b/\b<=a:=by unfold QC;split<;>omega
def HulIs(h:Hul)(S:Span->Prop):Prop:=(h.m=true->(∃s,S s/\s.lo=h.s.lo)/\∃s,S s/\s.hi=h.s.hi)/\∀s,S s->h.m=true/\h.s.lo<=s.lo/\s.hi<=h.s.hi
theorem HulIs.zero{S:Span->Prop}(h:∀s,¬ S s):HulIs zHul S:=⟨λh=>(by cases h),λs hs=>absurd hs (h s)⟩
theorem HulIs.ext{h:Hul}{S T:Span->Prop}(hs:HulIs h S)(e:∀s,S s↔T s):HulIs h T:=
 ⟨λhm=>let ⟨⟨a,a1,a2⟩,b,b1,b2⟩:=hs.1 hm;⟨⟨a,(e a).1 a1,a2⟩,b,(e b).1 b1,b2⟩,λs q=>hs.2 s ((e s).2 q)⟩
theorem HulIs.add{h:Hul}{S:Span->Prop}(hs:HulIs h S)(x:Span):HulIs (Na h x) λs=>S s∨s=x:=by
 cases hm:h.m with
 |false=>
  have no:∀s,¬ S s:=λs q=>by have:=(hs.2 s q).1;rw[hm] at this;cases this
  have e:Na h x=⟨x,true⟩:=by unfold Na;rw[hm];rfl
  rw[e]
  exact⟨λ_=>⟨⟨x,.inr rfl,rfl⟩,x,.inr rfl,rfl⟩,λs q=>q.elim (λq=>absurd q (no s)) λq=>by subst q;exact⟨rfl,Int.le_refl _,Int.le_refl _⟩⟩
 |true=>
  have e:Na h x=⟨⟨QC x.lo h.s.lo,HJ x.hi h.s.hi⟩,true⟩:=by unfold Na;rw[hm];rfl
  obtain⟨⟨a,a1,a2⟩,b,b1,b2⟩:=hs.1 hm
  have m1:=BUA x.lo h.s.lo
  have m2:=BIJ x.hi h.s.hi
  rw[e]
  refine⟨λ_=>⟨?_,?_⟩,λs q=>⟨rfl,?_,?_⟩⟩
  ·show ∃s,(S s∨s=x)/\s.lo=QC x.lo h.s.lo
   rcases qA x.lo h.s.lo with⟨q,_⟩ | ⟨q,_⟩<;>rw[q]
   ·exact⟨x,.inr rfl,rfl⟩
   ·exact⟨a,.inl a1,a2⟩
  ·show ∃s,(S s∨s=x)/\s.hi=HJ x.hi h.s.hi
   rcases Jd x.hi h.s.hi with⟨q,_⟩ | ⟨q,_⟩<;>rw[q]
   ·exact⟨x,.inr rfl,rfl⟩
   ·exact⟨b,.inl b1,b2⟩
  ·show QC x.lo h.s.lo<=s.lo
   rcases q with q | q
   ·have:=(hs.2 s q).2;omega
   ·subst q;exact m1.1
  ·show s.hi<=HJ x.hi h.s.hi
   rcases q with q | q
   ·have:=(hs.2 s q).2;omega
   ·subst q;exact m2.1
theorem HulIs.who{h:Hul}{S:Span->Prop}(hs:HulIs h S):(∃s,S s)/\(bU h).2=0/\(bU h).1=h.s/\h.m=true∨(∀s,¬ S s)/\bU h=(⟨0,0⟩,5):=by
 cases hm:h.m with
 |true=>
  obtain⟨⟨a,a1,_⟩,_⟩:=hs.1 hm
  exact .inl ⟨⟨a,a1⟩,by unfold bU;rw[hm];rfl,by unfold bU;rw[hm];rfl,rfl⟩
 |false=>exact .inr ⟨λs q=>(by have:=(hs.2 s q).1;rw[hm] at this;cases this),by unfold bU;rw[hm];rfl⟩
theorem W0{a:CZ}(h:ChOk a.c)(hr:DJ a=0){l:List Span}(hl:l.length=a.c.ms.length)(hb:∀i,i<a.c.ms.length->nL 1000000000 (gD l i)){Q:Nat->Int->Prop}(hq:∀i,i<a.c.ms.length->∀x,(gD l i).has x↔(gD (ZJ a) i).has x/\Q i x):(XS (FZ a) l).all Od=true↔∃u,TrC a.c (FZ a).sp u/\∀i,i<a.c.ms.length->Q i (u i):=by
 have hm:=h.m
 have b1:gpOk (OG (FZ a)) (a.c.ms.length-1):=ABO (w:=FZ a) h
 have b2:∀g,g<a.c.ms.length-1->(OG (FZ a) g).lo<=(OG (FZ a) g).hi:=AAG (w:=FZ a) h
 rw[BPF (by omega) (by omega) (λi hi=>hb i (by omega)) (by rw[hl];exact b1) (by rw[hl];exact b2),hl]
 constructor
 ·rintro⟨u,hu⟩
  refine⟨u,⟨λi hi=>?_,λk hk=>?_⟩,λi hi=>((hq i hi _).1 (hu.at_ i (by omega))).2⟩
  ·obtain⟨v,v1,v2⟩:=(BEZ h hr (by omega)).1 ((hq i (by omega) _).1 (hu.at_ i hi)).1
   have:=v1.note (i:=i) (by omega)
   rw[v2] at this;exact this
  ·have:=hu.gap k hk
   rw[hG (w:=FZ a) h (by show k+1<a.c.ms.length;omega)] at this;exact this
 ·rintro⟨u,hu,uq⟩
  refine⟨u,λi hi=>(hq i (by omega) _).2 ⟨(BEZ h hr (by omega)).2 ⟨u,hu,rfl⟩,uq i (by omega)⟩,λk hk=>?_⟩
  have:=hu.gap k hk
  rw[hG (w:=FZ a) h (by show k+1<a.c.ms.length;omega)];exact this
theorem TrC.bd{c:Cht}(h:ChOk c){sp:Nat->Bool}{u:Nat->Int}(hu:TrC c sp u){i:Nat}(hi:i<c.ms.length):-100000000<=u i/\u i<=100000000:=by
 have n:=hu.note hi
 have b:=(ADD h (i:Int)).1
 unfold nL at b
 unfold Span.has at n
 omega
theorem TrC.inc{c:Cht}(h:ChOk c){sp:Nat->Bool}{u:Nat->Int}(hu:TrC c sp u){g:Nat}(hg:g+1<c.ms.length):u g<u (g+1):=by
 have a:=(hu.gap g (by omega)).1
 have b:=(h.gap sp hg).1
 have a:c.p.lo*Cw c g<=u (g+1)-u g:=a
 omega
theorem TrC.lt{c:Cht}(h:ChOk c){sp:Nat->Bool}{u:Nat->Int}(hu:TrC c sp u){i:Nat}:∀{j:Nat},i<j->j<c.ms.length->u i<u j
 |j+1,hij,hj=>by
  have:=hu.inc h hj
  rcases Nat.lt_or_ge i j with q | q
  ·have:=hu.lt h q (by omega);omega
  ·obtain rfl:i=j:=by omega
   exact this
theorem TrC.le{c:Cht}(h:ChOk c){sp:Nat->Bool}{u:Nat->Int}(hu:TrC c sp u){i j:Nat}(hij:i<=j)(hj:j<c.ms.length):u i<=u j:=by
 rcases Nat.lt_or_ge i j with q | q
 ·exact Int.le_of_lt (hu.lt h q hj)
 ·obtain rfl:i=j:=by omega
  exact Int.le_refl _
theorem Tp{c:Cht}{i:Nat}(hi:i<c.ms.length):gD (Jp c) i=YW c i:=FF _ _ _ hi
theorem AWR{l:List Span}{k:Nat}{a b:Int}{i:Nat}(hi:i<l.length)(hk:k<=l.length):gD (V3 l (k:Int) a b) i=⟨bif decide (i=k) then HJ (gD l i).lo b else (gD l i).lo,bif decide (i+1=k) then QC (gD l i).hi a else (gD l i).hi⟩:=by
 unfold V3
 rw[FF _ _ _ hi]
 unfold parM
 have e1:((k:Int)).toNat=k:=by omega
 rw[e1]
 congr 1
 ·by_cases q:i=k
  ·rw[decide_eq_true q,decide_eq_true (show (k:Int)<l.length by omega)];rfl
  ·rw[decide_eq_false q];rfl
 ·by_cases q:i+1=k
  ·rw[decide_eq_true q,decide_eq_true (show (k:Int)>0 by omega),decide_eq_true (show i=((k:Int)-1).toNat by omega)];rfl
  ·rw[decide_eq_false q]
   have:(decide ((k:Int)>0)&&decide (i=((k:Int)-1).toNat))=false:=by
    by_cases q1:(k:Int)>0
    ·have:¬ i=((k:Int)-1).toNat:=by omega
     rw[decide_eq_false this,Bool.and_false]
    ·rw[decide_eq_false q1];rfl
   rw[this]
theorem BSF{b:Bool}{p q v:Int}:(bif b then HJ p q else p)<=v↔p<=v/\(b=true->q<=v):=by
 cases b
 ·exact⟨λh=>⟨h,λh=>(by cases h)⟩,λh=>h.1⟩
 ·exact maxI_le.trans ⟨λh=>⟨h.1,λ_=>h.2⟩,λh=>⟨h.1,h.2 rfl⟩⟩
theorem BVI{b:Bool}{p q v:Int}:v<=(bif b then QC p q else p)↔v<=p/\(b=true->v<=q):=by
 cases b
 ·exact⟨λh=>⟨h,λh=>(by cases h)⟩,λh=>h.1⟩
 ·exact le_minI.trans ⟨λh=>⟨h.1,λ_=>h.2⟩,λh=>⟨h.1,h.2 rfl⟩⟩
theorem CXB{l:List Span}{a b i:Nat}{x y:Int}(hx:-100000001<=x/\x<=100000001)(hy:-100000001<=y/\y<=100000001)(hi:i<l.length)(ha:a<l.length)(hb:b<l.length)(hb2:b<100000)(v:Int):(gD (winL l a b x y) i).has v↔(gD l i).has v/\(i=a->x<=v)/\(i+1=a->v<=x-1)/\(i=b+1->y+1<=v)/\(i=b->v<=y):=by
 have e1:wr (x-1)=x-1:=Ap (by omega) (by omega)
 have e2:wr ((b:Int)+1)=((b+1:Nat):Int):=II (by omega)
 have e3:wr (y+1)=y+1:=Ap (by omega) (by omega)
 unfold winL
 rw[e1,e2,e3,AWR (by rw[xP];exact hi) (by rw[xP];omega),AWR hi (by omega)]
 unfold Span.has
 show (bif decide (i=b+1) then HJ (bif decide (i=a) then HJ (gD l i).lo x else (gD l i).lo) (y+1) else (bif decide (i=a) then HJ (gD l i).lo x else (gD l i).lo))<=v/\v<=(bif decide (i+1=b+1) then QC (bif decide (i+1=a) then QC (gD l i).hi (x-1) else (gD l i).hi) y else (bif decide (i+1=a) then QC (gD l i).hi (x-1) else (gD l i).hi))↔_
 rw[BSF,BSF,BVI,BVI]
 simp only[decide_eq_true_eq]
 omega
theorem CZM{l:List Span}{a b i:Nat}{x y:Int}(hx:-100000001<=x/\x<=100000001)(hy:-100000001<=y/\y<=100000001)(hi:i<l.length)(ha:a<l.length)(hb:b<l.length)(hb2:b<100000)(hl:nL 100000000 (gD l i)):nL 1000000000 (gD (winL l a b x y) i):=by
 have e1:wr (x-1)=x-1:=Ap (by omega) (by omega)
 have e2:wr ((b:Int)+1)=((b+1:Nat):Int):=II (by omega)
 have e3:wr (y+1)=y+1:=Ap (by omega) (by omega)
 unfold winL
 rw[e1,e2,e3,AWR (by rw[xP];exact hi) (by rw[xP];omega),AWR hi (by omega)]
 unfold nL at *
 obtain⟨⟨l1,l2⟩,l3,l4⟩:=hl
 have m1:∀(b:Bool) (p q:Int),-100000002<=p/\p<=100000002 -> -100000002<=q/\q<=100000002 -> -100000002<=(bif b then HJ p q else p)/\(bif b then HJ p q else p)<=100000002:=λb p q hp hq=>by
  cases b
  ·exact hp
  ·exact CJI hp hq
 have m2:∀(b:Bool) (p q:Int),-100000002<=p/\p<=100000002 -> -100000002<=q/\q<=100000002 -> -100000002<=(bif b then QC p q else p)/\(bif b then QC p q else p)<=100000002:=λb p q hp hq=>by
  cases b
  ·exact hp
  ·show _<=QC p q/\QC p q<=_
   unfold QC;split<;>omega
 have a1:=m1 (decide (i=a)) (gD l i).lo x (by omega) (by omega)
 have a2:=m1 (decide (i=b+1)) _ (y+1) a1 (by omega)
 have b1:=m2 (decide (i+1=a)) (gD l i).hi (x-1) (by omega) (by omega)
 have b2:=m2 (decide (i+1=b+1)) _ y b1 (by omega)
 exact⟨⟨Int.le_trans (by decide) a2.1,Int.le_trans a2.2 (by decide)⟩,Int.le_trans (by decide) b2.1,Int.le_trans b2.2 (by decide)⟩
def inW(c:Cht)(u:Nat->Int)(f t:Int)(a b:Nat):Prop:=∀i,i<c.ms.length->(f<=u i/\u i<=t↔a<=i/\i<=b)
theorem BHM{x:CZ2}(h:ChOk x.a.c)(hr:DJ x.a=0){i j:Nat}(hij:i<=j)(hj:j<x.a.c.ms.length)(hft:uC x<=tQ x):yT x i j=true↔∃u,TrC x.a.c (FZ x.a).sp u/\inW x.a.c u x.f x.t i j:=by
 have hm:=h.m
 have tl:=hX hr
 have mx:=BIJ x.f (-100000001)
 have mn:=BUA x.t 100000001
 have mx2:=Jd x.f (-100000001)
 have mn2:=qA x.t 100000001
 have hF:-100000001<=uC x/\uC x<=100000001:=by unfold uC tQ at *;omega
 have hT:-100000001<=tQ x/\tQ x<=100000001:=by unfold uC tQ at *;omega
 unfold yT
 rw[W0 h hr (by rw[BKL,tl]) (λk hk=>CZM hF hT (by omega) (by omega) (by omega) (by omega) (BAS h hr hk)) (λk hk v=>CXB hF hT (by omega) (by omega) (by omega) (by omega) v)]
 constructor
 ·rintro⟨u,u1,u2⟩
  refine⟨u,u1,λk hk=>?_⟩
  have bk:=u1.bd h hk
  have a1:=(u2 i (by omega)).1 rfl
  have a2:=(u2 j hj).2.2.2 rfl
  constructor
  ·rintro⟨k1,k2⟩
   constructor
   ·refine Classical.byContradiction λq=>?_
    have l1:=u1.le h (show k<=i-1 by omega) (show i-1<_ by omega)
    have l2:=(u2 (i-1) (by omega)).2.1 (by omega)
    unfold uC at *;omega
   ·refine Classical.byContradiction λq=>?_
    have l1:=u1.le h (show j+1<=k by omega) hk
    have l2:=(u2 (j+1) (by omega)).2.2.1 rfl
    unfold tQ at *;omega
  ·rintro⟨k1,k2⟩
   have l1:=u1.le h k1 hk
   have l2:=u1.le h k2 hj
   unfold uC tQ at *;omega
 ·rintro⟨u,u1,u2⟩
  refine⟨u,u1,λk hk=>?_⟩
  have bk:=u1.bd h hk
  have w:=u2 k hk
  refine⟨λe=>?_,λe=>?_,λe=>?_,λe=>?_⟩
  ·have:=w.2 (by omega);unfold uC;exact maxI_le.2 ⟨this.1,by omega⟩
  ·have l:=u1.lt h (show k<i by omega) (by omega)
   have w2:=(u2 i (by omega)).2 (by omega)
   have:¬ (x.f<=u k/\u k<=x.t):=λq=>by have:=w.1 q;omega
   unfold uC;omega
  ·have l:=u1.lt h (show j<k by omega) hk
   have w2:=(u2 j hj).2 (by omega)
   have:¬ (x.f<=u k/\u k<=x.t):=λq=>by have:=w.1 q;omega
   unfold tQ;omega
  ·have:=w.2 (by omega);unfold tQ;exact le_minI.2 ⟨this.2,by omega⟩
def PkS(x:CZ2)(s:Span):Prop:=∃u,TrC x.a.c (FZ x.a).sp u/\∃i j,i<=j/\j<x.a.c.ms.length/\inW x.a.c u x.f x.t i j/\s=⟨gLo (rC x i j),gHi (rC x i j)⟩
theorem BYR(x:CZ2)(a:Nat){h:Hul}{S:Span->Prop}(hs:HulIs h S):∀k,HulIs (pkI x a h k) λs=>S s∨∃j,j<k/\yT x a (a+j)=true/\s=⟨gLo (rC x a (a+j)),gHi (rC x a (a+j))⟩
 |0=>hs.ext λs=>⟨.inl,λh=>h.elim id λ⟨j,h,_⟩=>absurd h (Nat.not_lt_zero _)⟩
 |k+1=>by
  have ih:=BYR x a hs k
  show HulIs (bif yT x a (a+k) then Na (pkI x a h k) ⟨gLo (rC x a (a+k)),gHi (rC x a (a+k))⟩ else pkI x a h k) _
  cases hi:yT x a (a+k) with
  |true=>
   refine (ih.add _).ext λs=>⟨?_,?_⟩
   ·rintro ((q | ⟨j,h1,h2⟩) | q)
    ·exact .inl q
    ·exact .inr ⟨j,by omega,h2⟩
    ·exact .inr ⟨k,Nat.lt_succ_self _,hi,q⟩
   ·rintro (q | ⟨j,h1,h2,h3⟩)
    ·exact .inl (.inl q)
    ·rcases Nat.lt_or_ge j k with r | r
     ·exact .inl (.inr ⟨j,r,h2,h3⟩)
     ·obtain rfl:j=k:=by omega
      exact .inr h3
  |false=>
   refine ih.ext λs=>⟨λq=>q.elim .inl λ⟨j,h1,h2⟩=>.inr ⟨j,by omega,h2⟩,?_⟩
   rintro (q | ⟨j,h1,h2,h3⟩)
   ·exact .inl q
   ·rcases Nat.lt_or_ge j k with r | r
    ·exact .inr ⟨j,r,h2,h3⟩
    ·obtain rfl:j=k:=by omega
     rw[h2] at hi;cases hi
theorem CHB(x:CZ2)(hft:uC x<=tQ x):∀k,HulIs (xM x k) λs=>∃a j,a<k/\j<x.a.c.ms.length-a/\yT x a (a+j)=true/\s=⟨gLo (rC x a (a+j)),gHi (rC x a (a+j))⟩
 |0=>HulIs.zero λs ⟨a,j,h,_⟩=>absurd h (Nat.not_lt_zero _)
 |k+1=>by
  have ih:=BYR x k (CHB x hft k) (x.a.c.ms.length-k)
  show HulIs (bif decide (tQ x>=uC x) then pkI x k (xM x k) (x.a.c.ms.length-k) else xM x k) _
  rw[decide_eq_true hft]
  refine ih.ext λs=>⟨?_,?_⟩
  ·rintro (⟨a,j,h1,h2⟩ | ⟨j,h1,h2⟩)
   ·exact⟨a,j,by omega,h2⟩
   ·exact⟨k,j,Nat.lt_succ_self _,h1,h2⟩
  ·rintro⟨a,j,h1,h2,h3⟩
   rcases Nat.lt_or_ge a k with r | r
   ·exact .inl ⟨a,j,r,h2,h3⟩
   ·obtain rfl:a=k:=by omega
    exact .inr ⟨j,h2,h3⟩
theorem CAV(x:CZ2)(hft:¬ uC x<=tQ x):∀k,xM x k=zHul
 |0=>rfl
 |k+1=>by
  show (bif decide (tQ x>=uC x) then pkI x k (xM x k) (x.a.c.ms.length-k) else xM x k)=zHul
  rw[decide_eq_false hft];exact CAV x hft k
theorem CJT{x:CZ2}(h:ChOk x.a.c)(hr:DJ x.a=0)(ht:x.f<=x.t):HulIs (xM x x.a.c.ms.length) (PkS x):=by
 by_cases hft:uC x<=tQ x
 ·refine (CHB x hft _).ext λs=>⟨?_,?_⟩
  ·rintro⟨a,j,h1,h2,h3,h4⟩
   obtain⟨u,u1,u2⟩:=(BHM h hr (show a<=a+j by omega) (by omega) hft).1 h3
   exact⟨u,u1,a,a+j,by omega,by omega,u2,h4⟩
  ·rintro⟨u,u1,i,j,h1,h2,h3,h4⟩
   refine⟨i,j-i,by omega,by omega,?_,?_⟩
   ·rw[show i+(j-i)=j by omega];exact (BHM h hr h1 h2 hft).2 ⟨u,u1,h3⟩
   ·rw[show i+(j-i)=j by omega];exact h4
 ·rw[CAV x hft]
  refine HulIs.zero ?_
  rintro s ⟨u,u1,i,j,h1,h2,h3,h4⟩
  have b:=u1.bd h (show i<_ by omega)
  have w:=(h3 i (by omega)).2 ⟨Nat.le_refl _,h1⟩
  refine hft ?_
  exact Int.le_trans (maxI_le.2 ⟨w.1,by omega⟩) (le_minI.2 ⟨w.2,by omega⟩)
theorem AMB:∀(l:List Int) (a:Int),a<=l.foldl HJ a/\(∀x∈l,x<=l.foldl HJ a)/\(l.foldl HJ a=a∨l.foldl HJ a∈l)
 |[],a=>⟨Int.le_refl _,λx h=>(by cases h),.inl rfl⟩
 |y :: l,a=>by
  obtain⟨h1,h2,h3⟩:=AMB l (HJ a y)
  have m:=BIJ a y
  show a<=l.foldl HJ (HJ a y)/\(∀x∈y :: l,x<=l.foldl HJ (HJ a y))/\(l.foldl HJ (HJ a y)=a∨l.foldl HJ (HJ a y)∈y :: l)
  refine⟨by omega,λx hx=>?_,?_⟩
  ·rcases List.mem_cons.1 hx with e | hx
   ·subst e;omega
   ·exact h2 x hx
  ·rcases h3 with h3 | h3
   ·rw[h3]
    rcases Jd a y with⟨q,_⟩ | ⟨q,_⟩
    ·exact .inl q
    ·rw[q];exact .inr (List.mem_cons_self ..)
   ·exact .inr (List.mem_cons_of_mem _ h3)
theorem CVN{l:List Span}(h:0<l.length):(∀i,i<l.length->(gD l i).lo<=gLo l)/\∃i,i<l.length/\gLo l=(gD l i).lo:=by
 obtain⟨h1,h2,h3⟩:=AMB (l.map (·.lo)) (gD l 0).lo
 refine⟨λi hi=>h2 _ (List.mem_map.2 ⟨gD l i,OH hi,rfl⟩),?_⟩
 rcases h3 with h3 | h3
 ·exact⟨0,h,h3⟩
 ·obtain⟨s,s1,s2⟩:=List.mem_map.1 h3
  obtain⟨i,i1,i2⟩:=Df s1
  exact⟨i,i1,by rw[i2];exact s2.symm⟩
theorem CUO{l:List Span}(h:0<l.length):(∀i,i<l.length->(gD l i).hi<=gHi l)/\∃i,i<l.length/\gHi l=(gD l i).hi:=by
 obtain⟨h1,h2,h3⟩:=AMB (l.map (·.hi)) (gD l 0).hi
 refine⟨λi hi=>h2 _ (List.mem_map.2 ⟨gD l i,OH hi,rfl⟩),?_⟩
 rcases h3 with h3 | h3
 ·exact⟨0,h,h3⟩
 ·obtain⟨s,s1,s2⟩:=List.mem_map.1 h3
  obtain⟨i,i1,i2⟩:=Df s1
  exact⟨i,i1,by rw[i2];exact s2.symm⟩
theorem CJQ(x:CZ2)(i j:Nat):(rC x i j).length=j+1-i:=rng_length _ _
theorem CZV(x:CZ2){i j k:Nat}(h:k<j+1-i):gD (rC x i j) k=gD (Jp x.a.c) (i+k):=FF _ _ _ h
end Go.Bal
