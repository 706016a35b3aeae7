/- Package chart: the greatest stages from a time to another one. -/
import Derived.Test.YtdbjalgfomknhaaGreatChI
import Derived.Test.YtdbjalgfomknhaaGreatChG1
set_option linter.unusedVariables false
set_option linter.unusedSimpArgs false
namespace Go.Bal
open Go Go.Sym Go.Proofs
structure CZ2 where
 a:CZ
 f:Int
 t:Int
structure IJ where
 i:Nat
 j:Nat
 deriving Inhabited
def dCZ2:List AVal->Heap->Option (CZ2×List (Nat×Nat)×List Nat)
 |[x,y,.d f,.d t],H=>match tN x H,tL y H with
  |some (c,g),some (l,e)=>some (⟨⟨c,l⟩,KN f,KN t⟩,[],g ++ e)
  |_,_=>none
 |_,_=>none
def xCZ2(x:CZ2):List AVal:=[.d (Nj x.a.c),.d (GB x.a.z),.int x.f,.int x.t]
def uC(x:CZ2):Int:=HJ x.f (-100000001)
def tQ(x:CZ2):Int:=QC x.t 100000001
def yT(x:CZ2)(a b:Nat):Bool:=(XS (FZ x.a) (winL (ZJ x.a) (a:Int) (b:Int) (uC x) (tQ x))).all Od
def rC(x:CZ2)(a b:Nat):List Span:=NK (b+1-a) λi=>gD (Jp x.a.c) (a+i)
def pkI(x:CZ2)(a:Nat)(h:Hul):Nat->Hul
 |0=>h
 |k+1=>bif yT x a (a+k) then Na (pkI x a h k) ⟨gLo (rC x a (a+k)),gHi (rC x a (a+k))⟩ else pkI x a h k
def xM(x:CZ2):Nat->Hul
 |0=>zHul
 |a+1=>bif decide (tQ x>=uC x) then pkI x a (xM x a) (x.a.c.ms.length-a) else xM x a
def O3(x:CZ2):Span×Int:=bif decide (x.t<x.f) then (⟨0,0⟩,4) else bU (xM x x.a.c.ms.length)
def bB(x:CZ2):Span×Int:=bif DJ x.a==0 then O3 x else (⟨0,0⟩,DJ x.a)
def C_Peak:Ctr:={ α:=CZ2,xs:=xCZ2,val:=λx=>.tup [.d (MV (bB x).1),.int (bB x).2],keep:=λ_=>[],pre:=λx=>[x.a.c.ms.length<4611686018427387904/\x.a.c.ns.length<4611686018427387904/\x.a.z.length<4611686018427387904] }
def pkS(x:CZ2)(a:Nat):List (Nat×AVal):=[(2,.int (uC x)),(3,.int (tQ x)),(8,.bptr 202 0),(10,.bptr 208 0),(11,.d (HA (ZJ x.a))),(12,.d (HA (Jp x.a.c))),(14,.bptr 206 0),(42,.int x.a.c.ms.length),(43,.int a)]
def pkH(x:CZ2)(h:Hul):List (Nat×HCell):=[(202,.live (.box [.int 0,.int 0])),(206,.live (hlB h)),(208,.live (dkB (FZ x.a) 209)),(209,.live (dkM (FZ x.a)))]
def pk9(x:CZ2):Shape:={ α:=Nat,dflt:=0,T:=λa=>⟨pkS x a,pkH x (xM x a)⟩,inv:=λa=>a<=x.a.c.ms.length,meas:=λa=>x.a.c.ms.length-a,first:=[(202,1016),(206,8000),(208,2032),(209,2033)] }
def pk12(x:CZ2)(m:Nat):Shape:={ α:=IJ,dflt:=default,T:=λs=>⟨[(15,.int s.i),(16,.int s.j)] ++ pkS x s.i,pkH x (pkI x s.i (xM x s.i) (s.j-s.i))⟩,inv:=λs=>s.i<x.a.c.ms.length/\x.a.c.ms.length-s.i=m/\s.i<=s.j/\s.j<=x.a.c.ms.length/\(s.i<s.j->tQ x>=uC x),meas:=λs=>x.a.c.ms.length-s.j }
def CDV(x:CZ2):Ann:={ ann 91 [(dU,C_rdO.spec B6),(AZG,C_win.spec dDkW),(No,C_nar.spec dDkS),(BHV,C_least.spec dN0c),(BQO,C_most.spec dN0c),(C8,orS (C_grL.spec CSL) (C_grH.spec CSI)),(ASY,C_hadd.spec dHuS),(AIO,C_who.spec dHu1)] with loops:=λid=>if id=9 then some [pk9 x] else none,inner:=λgs id=>if id=12 then some [pk12 x (gs.getD 0 0)] else none }
def BUW:Ann:=ann 91 [(dU,C_rdX.spec B6)]
def CEK(x:CZ2):Prop:=ES Try.prog (CDV x) BBD (AJ BBD) (xCZ2 x) (AD []) (.tup [.d (MV (O3 x).1),.int (O3 x).2]) [] [] []
abbrev QS:=CZ2.a
abbrev S0:=CZ2.t
abbrev M6:=CZ2.f
abbrev AUS:=O3
abbrev Qn:=@Exists IJ
abbrev EL:=IJ.i
abbrev GU:=IJ.j
abbrev BEI:=@GE.ge Int Int.instLEInt
abbrev tO:=λ(f:IJ->Prop)=>∀(x:IJ),f x
abbrev Gx a b:=Ti (xM a b)
abbrev pX a b:=bC (xM a b)
abbrev JN a:=FN (QS a)
abbrev PP a:=AX (JN a)
abbrev IQ a:=LX (QS a)
abbrev AGE a b c:=pkI a b (xM a b) (IG c b)
abbrev AZS a b c:=bC (AGE a b c)
abbrev Zk a b c:=AZS a (EL b) (GU c)
abbrev BAQ a b c:=Ti (AGE a b c)
abbrev Br a b:=BAQ a (EL b) (GU b)
abbrev Sq a:=Lh (JN a)
abbrev Dx a:=ZJ (QS a)
abbrev dL a:=RE (Dx a)
abbrev Ur a:=SK (Dx a)
abbrev eY a b c:=AV a (GU b) c
abbrev Xo a b:=CW (GU a) b
abbrev rD a b:=Xo a (PP b)
abbrev sG a b:=CW (EL a) (GU b)
abbrev Vb a b c:=FI (PP a) b c
abbrev rL a b c:=Vb a (EL b) c
abbrev Oq a b:=CV (EL a) b
abbrev Wo a b:=Oq a (EL b)
abbrev Zt a b:=BA (GU a) b
abbrev BAY a b(c:Nat->Nat):=Me a (λi=>OV b (c i))
abbrev BDM a b:=IV (EL a) b
abbrev BAH a:=Ib (GU a)
abbrev Pi a b c:=BAY (IG (BAH a) (EL a)) (Sq b) (λi=>BDM c i)
abbrev Jl a:=CG (EL a)
abbrev Iq a:=CG (GU a)
abbrev dS a:=IH (Dx a)
abbrev Nc a:=tP (QS a) (JN a)
abbrev Se a b:=AUT (Nc a) (QS b)
abbrev Mx a b:=Qp (Nc a) (QS b)
abbrev eH a b:=AE (JN a) b
abbrev fX a b:=AR (JN a) b
abbrev dX a b:=AL (JN a) b
abbrev cS a b:=AC (JN a) b
abbrev gS a b:=AS (JN a) b
abbrev eD a b:=AN (JN a) b
abbrev fL a b:=AM (JN a) b
abbrev kK a b:=Dj (QS a) (JN b)
abbrev gW a b:=Al (QS a) (JN b)
abbrev Gm a:=NZ (QS a)
abbrev Hn a:=NX (QS a)
attribute [go_sem] QS S0 M6 AUS Qn EL GU BEI tO Gx pX JN PP IQ AGE AZS Zk BAQ Br Sq Dx dL Ur eY Xo rD sG Vb rL Oq Wo Zt BAY BDM BAH Pi Jl Iq dS Nc Se Mx eH fX dX cS gS eD fL kK gW Gm Hn
theorem CMV(x:CZ2):(CEK x)=(And (MO (Hn x) (Gm x) (JN x) (YZ (JN x) (gW x x) (kK x x) (λi=>AT i (JN x) (fL x i) (eD x i) (gS x i) (cS x i) (dX x i) (fX x i) (eH x i)) (QS x) (Jx (QS x) (JN x)) (Pf (Mx x x)))) (Fb (NL (S0 x) (M6 x)) (SY (UO (sN (AUS x))) (WH (sN (AUS x))) (zY (AUS x)) 4) (λi=>Kk (CS (AY (uC x) (Md (M6 x) (-100000001))) (AY (tQ x) (iC (S0 x) 100000001)) (ML (Dx x) (Kx (Mx x x))) (XQ (Dx x) (Kx (Mx x x))) (ML (Sq x) (Lh (Nc x))) (XQ (Sq x) (Lh (Nc x))) (Uh (CV (PP x) (IH (Kx (Mx x x)))) (CQ i) (BB (UO (Gx x i)) (WH (Gx x i)) (DZ (pX x i)) (GM (IQ x) (Se x x)) (CY (IQ x) (Se x x)) (GO (IQ x) (Se x x)) (GH (IQ x) (Se x x)) (GK (IQ x) (Se x x)) (Fw (VK (IQ x) (Se x x)) (VH (IQ x) (Se x x)) (XF (IQ x) (Se x x)) (λj=>AU j (IQ x) (PT (IQ x) j (Se x x)) (Gu (IQ x) j (Se x x) j) (AC (IQ x) j) (AC (Se x x) j) (Er (IQ x) j (Se x x) j) (AE (IQ x) j) (AE (Se x x) j)) (λj=>Jw j (Dc (QS x) j) (Dc (Mx x x) j)) LR (λj=>Hv (IQ x) j (Se x x) j) (λj=>Ul (QS x) j (Yk (Mx x x) j)) (λj=>Gs (IQ x) j (Se x x) j j j))))) i (PP x)) (λi=>Fe i (PP x) (Sp i (JN x)) (Qn (λj=>And (DI (Oq j i) (CV (GU j) i) (AF (uC x)) (AF (tQ x)) (Ur x) (dL x) (SK (Sq x)) (λk=>Bt k (Sq x)) (Uh (Kn (JN x)) (Oq j i) (Ru (AZ (Br x j) (Gx x i)) (AQ (Br x j) (Gx x i)) (MD (Zk x j j) (pX x i)) (IQ x) (QS x)))) (NH (EL j) (PP x) (rL x j i) (sG j j) (rD j x) (eY (EL j) j (BEI (tQ x) (uC x)))))) (tO (λj=>PY (NH (EL j) (PP x) (rL x j i) (sG j j) (rD j x) (eY (EL j) j (BEI (tQ x) (uC x)))) (IB (JY (GU j) (dS x)) (tJ (tQ x) (uC x))) (HV (RJ (Dx x)) (Fa (Dx x)) (EF (EL j)) (Aq (EF (GU j)) (AF (uC x)) (AF (tQ x)) (IQ x) (UZ (IQ x) (λk=>AT k (IQ x) (AM (IQ x) k) (AN (IQ x) k) (AS (IQ x) k) (AC (IQ x) k) (AL (IQ x) k) (AR (IQ x) k) (AE (IQ x) k)) (λk=>XD k (QS x)) (Ko (QS x)) (QG (MF (IQ x)) (BY (IQ x)) (IQ x) (BM (IQ x)) (BV (IQ x)) (BQ (IQ x)) (HS (IQ x)) (λk=>JL k (IQ x)) (VP (IQ x) (λk=>AU k (IQ x) (EI (IQ x) k) (EJ (IQ x) k) (AC (IQ x) k) (AS (IQ x) k) (EH (IQ x) k) (AE (IQ x) k) (AR (IQ x) k)) (λk=>XD k (QS x)) (Hk (QS x)) (BL (NF (OM (Dx x))) (CW (OM (Dx x)) 40) (Cl (EL j) (Jl j) (OM (Dx x)) (DX (GU j)) (DN (Iq j) (OM (Dx x))))) (IA (RJ (winL (Av (Dx x)) (Jl j) (Iq j) (uC x) (tQ x))) (λk=>Kt k (winL (Av (Dx x)) (Jl j) (Iq j) (uC x) (tQ x))) (BY (IQ x)) (DF (IQ x)) (BM (IQ x)) (BV (IQ x)) (BQ (IQ x)) (BW (IQ x)) (Hp (IQ x) (λk=>AT k (IQ x) (AM (IQ x) k) (AN (IQ x) k) (AS (IQ x) k) (AC (IQ x) k) (AL (IQ x) k) (AR (IQ x) k) (AE (IQ x) k)) (AB (λk=>XD k (QS x))) (Hk (QS x)) (Bh (λk=>AU k (IQ x) (EI (IQ x) k) (EJ (IQ x) k) (AC (IQ x) k) (AS (IQ x) k) (EH (IQ x) k) (AE (IQ x) k) (AR (IQ x) k)) (λk=>XD k (QS x)) (IQ x) (Hk (QS x)) (Te (OM (winL (Av (Dx x)) (Jl j) (Iq j) (uC x) (tQ x))) (IQ x)) (Ci (IQ x)) (ZB (IQ x))))))))) (EZ (Ia (Lt (FQ (IQ x)) (Ko (QS x)) (winL (Av (Dx x)) (Jl j) (Iq j) (uC x) (tQ x)))) (Nq (AH (DX (EL j)) (HD (Jl j) (FE (GU j))) (Hr (FE (GU j)) (IH (Sq x)))) (MW (IH (Pi j x j)) (BAH j) (EL j)) (λk=>TO k (Pi j x j) (OV (Pi j x j) k) (Sq x) (BDM j k)) (And (SN (IH (Pi j x j))) (MI (IH (Pi j x j)))) (CR (AH (DX (EL j)) (HD (Jl j) (FE (GU j))) (Hr (FE (GU j)) (IH (Sq x)))) (MW (IH (Pi j x j)) (BAH j) (EL j)) (λk=>TO k (Pi j x j) (OV (Pi j x j) k) (Sq x) (BDM j k)) (And (SN (IH (Pi j x j))) (MI (IH (Pi j x j)))) (AF (gLo (Pi j x j))) (AF (gHi (Pi j x j))) (BZ (Br x j)) (IS (Br x j)) (GJ (Zk x j j)))) (Qn (λk=>IF (DI (Wo k j) (Zt k (GU j)) (AF (uC x)) (AF (tQ x)) (Ur x) (dL x) (SK (Sq x)) (λl=>Bt l (Sq x)) (Uh (Kn (JN x)) (Wo k j) (Ru (AZ (Br x k) (Vz (Br x j) (AGE x (EL j) (GU j)) (Rc (gLo (Pi j x j)) (gHi (Pi j x j))))) (AQ (Br x k) (Vz (Br x j) (AGE x (EL j) (GU j)) (Rc (gLo (Pi j x j)) (gHi (Pi j x j))))) (EA (Zk x k k)) (IQ x) (QS x)))) (NH (EL k) (PP x) (rL x k i) (sG k k) (rD k x) (eY (EL k) k (BEI (tQ x) (uC x)))) (PP x) (GU k) (GU j))) (Qn (λk=>IF (DI (Wo k j) (Zt k (GU j)) (AF (uC x)) (AF (tQ x)) (Ur x) (dL x) (SK (Sq x)) (λl=>Bt l (Sq x)) (Uh (Kn (JN x)) (Wo k j) (Ru (AZ (Br x k) (Br x j)) (AQ (Br x k) (Br x j)) (MD (Zk x k k) (Zk x j j)) (IQ x) (QS x)))) (NH (EL k) (PP x) (rL x k i) (sG k k) (rD k x) (eY (EL k) k (BEI (tQ x) (uC x)))) (PP x) (GU k) (GU j))))) (KI (λk=>IF (CS (AF (uC x)) (AF (tQ x)) (Ur x) (dL x) (SK (Sq x)) (RE (Sq x)) (Uh (Kn (JN x)) (BA k (EL j)) (Ru (AZ (Gx x k) (Br x j)) (AQ (Gx x k) (Br x j)) (MD (pX x k) (Zk x j j)) (IQ x) (QS x)))) (ED k (PP x)) (PP x) k i)))) (BL (BZ (Gx x i)) (AVD (IS (Gx x i)) (GJ (pX x i)) (BZ (Gx x i))) (SY (AZ (sN (AUS x)) (kF (Gx x i) (xM x i))) (AQ (sN (AUS x)) (kF (Gx x i) (xM x i))) (zY (AUS x)) (Zs (eQ (Gx x i) (xM x i)))))))):=by kernel_rfl
def BUC(x:CZ2):Prop:=ES Try.prog BUW BBD (AJ BBD) (xCZ2 x) (AD []) (.tup [.d (MV zSp),.int (DJ x.a)]) [] [] []
theorem CHU(x:CZ2):(BUC x)=(And (MO (Hn x) (Gm x) (JN x) (YZ (JN x) (gW x x) (kK x x) (λi=>AT i (JN x) (fL x i) (eD x i) (gS x i) (cS x i) (dX x i) (fX x i) (eH x i)) (QS x) (Jx (QS x) (JN x)) (NQ (Ek (Mx x x))))) (Sl (MG (Ek (Mx x x))) BP (Ek (QS x)) (Ek (Mx x x)) (Sl (NL (S0 x) (M6 x)) BP (Ek (QS x)) 4 VS))):=by kernel_rfl
theorem BKL(l:List Span)(a b x y:Int):(winL l a b x y).length=l.length:=by unfold winL;rw[zP,zP]
theorem pk1(x:CZ2){i j:Nat}(h:Hul)(hij:i<=j)(hw:yT x i j=true):pkI x i h (j+1-i)=Na (pkI x i h (j-i)) ⟨gLo (rC x i j),gHi (rC x i j)⟩:=by
 rw[show j+1-i=(j-i)+1 by omega]
 show (bif yT x i (i+(j-i)) then _ else _)=_
 rw[show i+(j-i)=j by omega,hw];rfl
theorem pk0(x:CZ2){i j:Nat}(h:Hul)(hij:i<=j)(hw:yT x i j=false):pkI x i h (j+1-i)=pkI x i h (j-i):=by
 rw[show j+1-i=(j-i)+1 by omega]
 show (bif yT x i (i+(j-i)) then _ else _)=_
 rw[show i+(j-i)=j by omega,hw];rfl
theorem CTF(x:CZ2)(h1:x.a.c.ms.length<4611686018427387904/\x.a.c.ns.length<4611686018427387904/\x.a.z.length<4611686018427387904)(c0:DJ x.a=0):CEK x:=by
 have tl:=hX c0
 have sl:=P9 x.a.c
 obtain⟨_,⟨n1,n2⟩,_⟩:=PR (As c0).1
 have wo:∀a b:Nat,(XS (FZ x.a) (winL (ZJ x.a) (a:Int) (b:Int) (uC x) (tQ x))).all Od=yT x a b:=λ_ _=>rfl
 have pf:HJ x.f (-100000001)=uC x:=rfl
 have pt:QC x.t 100000001=tQ x:=rfl
 have so:∀a b:Nat,(NK (b+1-a) λi=>gD (Jp x.a.c) (a+i))=rC x a b:=λ_ _=>rfl
 rw[CMV]<;> delta MD N6 tJ Iv BH BK DY RD RU EM EO CH IH AB CJ CE AY OV CG MY CW FV NL HD KA UI Md iC IG EB FX EC GY GX GR GG DV FO FU KI Me hd84 FP FS El LW HM IV YU KM WU ED BN YV WT FN TW Ko Rc Lh Y3 qE XT Ek bC Ti sN zY QS S0 M6 AUS Qn EL GU BEI tO AH CK IW AX JE AI LX WE BC AV AF IK IN BI GJ oN AVD Sz AQ WV JB BB AC Kv BZ CN Eh BF ADZ MC AE Ei AO BD HK DD LZ AZ DC BR BE JN BS BJ JQ Ch AR BQ Au IS LY SZ BV HF ZK CI OC AUT EQ GQ Yv BL Qh AS BM CY Oc BY ER FL EV CF IE HR BX TV KL CU GW YS Cy HO DN IQ MW GD CX OT OR Cx OE Av FQ DF DU tP HY IC MZ DR OU HG PC OD QQ EA Ql DT LR Gi KQ HH FE FG FW Qe AT yV IZ SK Qp VV MJ JA DX HE PP OF OS CR EZ JJ BA ZR Dx BP WK OM NF RG Fs CV AU DO DI CS NZ DZ WO BO BW JH FI Zq JG AL AN AM LJ KO GP ID HQ XK VX Ct NP ZP FK MQ KX JC MN NX DK VI JU LS SC Bt FT EF QD JW GK MH XD Eb NV JZ GM GH FA TF TQ IB TO SN CQ GO KS HS Gr XP PT AGE EH EJ EI RE RL JY BAQ IL ML Ib Fo Eo Pf Al JK VB Do JL IF IA Ha HX NH TE Iq HV Jl Hk Sq PY XE VK UC XF MI Nc Fh YC Ff Dv MF WJ Gw XR Te eQ Cp VZ Dj MO Mw Va Cl Pe Kd cU AZS Xo SY Ad Aj RJ WA WL Br Hf Oq BAY Gx Hr Hn Ci UO Vb VH Gm BAH WH VQ aP Aq ZB Sy Dl Dc BDM Kx aS wZ Ia Io Kt Gd Mx Kn QG Lx Yk XQ Pi Se Fa Ur Lt YJ Jt Pq Hv Vz Er dL Jx dS Gu Fb Wo Zk Zs Wy eY Kk VP Ru UZ gW fL eD Jw Uh Fe Xd Nq dX kF rD gS Sp Zt pX fX Xb Gs eH sG Vw cS kK Fw rL Hp Ul YZ Bh;simp only[CC,eq_self,implies_true,forall_const,FR,fK,Uk,Ee,bD,BHC,CHX];simp only[tl,sl,wo,BKL,pf,pt]
 refine⟨⟨h1,c0⟩,λh4=>?_,λh4=>⟨⟨0,?_,Nat.zero_le _⟩,λa ha=>⟨λhlt=>⟨⟨⟨a,a⟩,?_,by show a<_;omega,rfl,Nat.le_refl _,by show a<=_;omega,λh=>absurd h (Nat.lt_irrefl _)⟩,λs ⟨s1,s2,s3,s4,s5⟩=>⟨λhc=>?_,λhc=>?_⟩⟩,λhge=>?_⟩⟩⟩
 ·unfold O3;rw[decide_eq_true h4];exact⟨rfl,rfl,rfl⟩
 ·simp;exact⟨rfl,rfl,rfl⟩
 ·simp[pkI]
 ·have hj:s.j<x.a.c.ms.length:=by
   cases hd:decide ((s.j:Int)<x.a.c.ms.length) with
   |false=>rw[hd] at hc;cases hc
   |true=>have:=of_decide_eq_true hd;omega
  have hft:tQ x>=uC x:=by
   rw[decide_eq_true (show (s.j:Int)<x.a.c.ms.length by omega)] at hc
   exact of_decide_eq_true hc
  have ew:IntKind.i64.wrap ((s.j:Int)+1)=((s.j+1:Nat):Int):=II (by omega)
  simp only[ew,Int.toNat_natCast,so]
  have bound:∀i,i<s.j+1-s.i->(gD (rC x s.i s.j) i).lo=(gD (Jp x.a.c) (s.i+i)).lo/\(gD (rC x s.i s.j) i).hi=(gD (Jp x.a.c) (s.i+i)).hi:=λi hi=>by
   unfold rC;rw[FF _ _ _ hi];exact⟨rfl,rfl⟩
  refine⟨?_,λhw=>⟨?_,⟨s.i,s.j+1⟩,?_,⟨s1,s2,by show s.i<=s.j+1;omega,by show s.j+1<=_;omega,λ_=>hft⟩,by show x.a.c.ms.length-(s.j+1)<_;omega⟩,λhw=>⟨⟨s.i,s.j+1⟩,?_,⟨s1,s2,by show s.i<=s.j+1;omega,by show s.j+1<=_;omega,λ_=>hft⟩,by show x.a.c.ms.length-(s.j+1)<_;omega⟩⟩
  ·simp;omega
  ·refine⟨⟨by omega,by omega,by omega⟩,bound,⟨by omega,by omega⟩,⟨by omega,by omega,by omega⟩,bound,by omega,by omega⟩
  ·have e:=pk1 x (xM x s.i) s3 hw
   simp only[e];simp;rfl
  ·have e:=pk0 x (xM x s.i) s3 hw
   simp only[e];simp
 ·have e:xM x (s.i+1)=pkI x s.i (xM x s.i) (s.j-s.i):=by
   show (bif decide (tQ x>=uC x) then _ else _)=_
   by_cases hft:tQ x>=uC x
   ·rw[decide_eq_true hft] at hc ⊢
    have hj:s.j=x.a.c.ms.length:=by
     cases hd:decide ((s.j:Int)<x.a.c.ms.length) with
     |true=>rw[hd] at hc;cases hc
     |false=>have:=of_decide_eq_false hd;omega
    rw[hj];rfl
   ·rw[decide_eq_false hft]
    have:s.j=s.i:=by
     rcases Nat.lt_or_ge s.i s.j with h | h
     ·exact absurd (s5 h) hft
     ·omega
    rw[this,Nat.sub_self];rfl
  refine⟨s.i+1,⟨(II (by omega)).symm,?_,?_,?_⟩,by omega,by omega⟩<;>rw[e]
 ·obtain rfl:a=x.a.c.ms.length:=by omega
  unfold O3;rw[decide_eq_false h4];exact⟨rfl,rfl,rfl⟩
theorem BTR:AW Try.prog BIS (C_Peak.spec dCZ2):=okT C_Peak (λ(x:CZ2) h=>by
 have h1:x.a.c.ms.length<4611686018427387904/\x.a.c.ns.length<4611686018427387904/\x.a.z.length<4611686018427387904:=h
 by_cases c0:DJ x.a=0
 ·have e:C_Peak.val x=.tup [.d (MV (O3 x).1),.int (O3 x).2]:=by
   show AVal.tup [.d (MV (bB x).1),.int (bB x).2]=_
   unfold bB;rw[c0];rfl
  rw[e]
  exact Wk (A:=CDV x) (L:=[]) (keep:=[]) (ren:=[]) (fz:=[]) BSW (by kernel_rfl) (AA BAR (AA CZQ (AA BCE (AA CEX (AA CJL (AA (CBE CUK CWJ) (AA BIA (AA BPH AK)))))))) (CTF x h1 c0)
 ·have c0':(DJ x.a==0)=false:=by simpa using c0
  have e:C_Peak.val x=.tup [.d (MV zSp),.int (DJ x.a)]:=by
   show AVal.tup [.d (MV (bB x).1),.int (bB x).2]=_
   unfold bB;rw[c0'];rfl
  rw[e]
  refine Wk (A:=BUW) (L:=[]) (keep:=[]) (ren:=[]) (fz:=[]) BSW (by kernel_rfl) (AA AZP AK) ?_
  show BUC x;rw[CHU]<;> delta BH BK DY EM EO CH AB CJ CE AY MY FV NL EB FX EC GY GX GR GG DV FO FU FP FS El QR VS FN TW Rn XT Ek QS S0 M6 AH CK IW AX JE AI WE BC AV AF IK IN YX AQ WV JB BB AC Kv BZ CN BF MC AE Ei AO BD DD LZ AZ DC BR BE JN BS BJ AR BQ Au IS BV HF CI GQ Qh AS BM ER EV CF IE CU GW Cy HO CX DU tP HY IC DR HH FW AT IZ Qp VV JA OS BP NZ BO AL AN AM LJ KO NX NV IL Al VB XE UC NQ Nc YC XR MG Dj MO Ad Aj WA WL Hn Ht Gm Dl Mx YJ Jx gW fL eD dX Sl gS fX eH cS kK YZ;simp only[CC,eq_self,implies_true,forall_const,FR,Ee]
  exact⟨⟨h1,c0⟩,λh=>by simp[c0] at h⟩) _
end Go.Bal

namespace Go.Bal
open Go Go.Sym Go.Proofs
theorem BYH{l:List Int}{i:Nat}(h:i<l.length):l.drop i=gD l i :: l.drop (i+1):=by
 rw[List.drop_eq_getElem_cons h];simp[gD,List.getD_eq_getElem?_getD,h]
theorem CLO(l:List Int)(i j:Nat):gD (l.drop i) j=gD l (i+j):=by
 simp[gD,List.getD_eq_getElem?_getD]
theorem CXU{α:Type}[Inhabited α]{l m:List α}(h:l.length=m.length)(h2:∀i,i<l.length->gD l i=gD m i):l=m:=by
 apply List.ext_getElem h
 intro i h3 h4
 have:=h2 i h3
 simpa[gD,List.getD_eq_getElem?_getD,h3,h4] using this
theorem DBS{l:List Int}{j:Nat}(h:j+1<l.length):l=l.take j ++ (gD l j :: gD l (j+1) :: l.drop (j+2))/\swL l j=l.take j ++ (gD l (j+1) :: gD l j :: l.drop (j+2)):=by
 have e:l.drop j=gD l j :: gD l (j+1) :: l.drop (j+2):=by
  rw[BYH (show j<l.length by omega),BYH (show j+1<l.length from h)]
 refine⟨by rw[<-e,List.take_append_drop],?_⟩
 apply CXU
 ·rw[BAU];simp;omega
 ·intro i hi
  rw[BAU] at hi
  rw[BCR h,BEJ]
  have hl:(l.take j).length=j:=by simp;omega
  by_cases h1:i<j
  ·rw[if_pos (by rw[hl];exact h1),decide_eq_false (show ¬i=j by omega),decide_eq_false (show ¬i=j+1 by omega)]
   simp[gD,List.getD_eq_getElem?_getD,List.getElem?_take,h1]
  ·rw[if_neg (by rw[hl];exact h1),hl]
   by_cases h2:i=j
   ·subst h2;simp;rfl
   ·by_cases h3:i=j+1
    ·subst h3;rw[decide_eq_false h2,decide_eq_true rfl,show j+1-j=1 by omega];rfl
    ·rw[decide_eq_false h2,decide_eq_false h3]
     obtain⟨m,rfl⟩:∃m,i=j+2+m:=⟨i-j-2,by omega⟩
     rw[show j+2+m-j=m+2 by omega]
     show gD l (j+2+m)=gD (l.drop (j+2)) m
     rw[CLO]
theorem CIJ{l:List Int}{j:Nat}(h:j+1<l.length):(swL l j).Perm l:=by
 obtain⟨h1,h2⟩:=DBS h
 rw[h2]
 conv=>rhs;rw[h1]
 exact List.Perm.append_left _ (List.Perm.swap _ _ _)
theorem AMP{key:Int->Int}:∀(j:Nat) (l:List Int),j<l.length->(insJ key j l).Perm l
 |0,l,_=>List.Perm.refl _
 |j+1,l,h=>by
  unfold insJ
  cases decide (cmpM (key (gD l (j+1))) (key (gD l j))<0)
  ·exact List.Perm.refl _
  ·exact (AMP j _ (by rw[BAU];omega)).trans (CIJ h)
theorem BKE{key:Int->Int}:∀(n i:Nat) (l:List Int),i+n<=l.length->(stR key n i l).Perm l
 |0,_,l,_=>List.Perm.refl _
 |n+1,i,l,h=>by
  unfold stR
  have hp:=AMP (key:=key) i l (by omega)
  exact (BKE n (i+1) _ (by rw[hp.length_eq];omega)).trans hp
theorem V6(key:Int->Int)(l:List Int):(stM key l).Perm l:=by
 unfold stM
 by_cases h:l.length=0
 ·rw[h];exact List.Perm.refl _
 ·exact BKE _ _ _ (by omega)
theorem BXW{a b:Int}:cmpM a b<0↔a<b:=by
 unfold cmpM
 by_cases h:a<b
 ·simp[h]
 ·by_cases h2:b<a
  ·simp[h,h2]
  ·simp[h,h2]
def DCN(key:Int->Int)(i j:Nat)(l:List Int):Prop:=(∀p q,p<q->q<=i->p≠j->q≠j->key (gD l p)<=key (gD l q))/\∀q,j<q->q<=i->key (gD l j)<=key (gD l q)
def upS(key:Int->Int)(i:Nat)(l:List Int):Prop:=∀p q,p<q->q<=i->key (gD l p)<=key (gD l q)
theorem AVJ{key:Int->Int}{i:Nat}:∀(j:Nat) (l:List Int),j<=i->i<l.length->DCN key i j l->upS key i (insJ key j l)
 |0,l,_,hl,h=>λp q h1 h2=>by
  show key (gD l p)<=key (gD l q)
  by_cases hp:p=0
  ·subst hp;exact h.2 q h1 h2
  ·exact h.1 p q h1 h2 hp (by omega)
 |j+1,l,hj,hl,h=>by
  unfold insJ
  by_cases hc:key (gD l (j+1))<key (gD l j)
  ·rw[decide_eq_true (BXW.2 hc)]
   refine AVJ j (swL l j) (by omega) (by rw[BAU];omega) ⟨λp q h1 h2 h3 h4=>?_,λq h1 h2=>?_⟩
   ·rw[BCR (by omega),BCR (by omega),decide_eq_false h3,decide_eq_false h4]
    by_cases hp:p=j+1
    ·subst hp
     rw[decide_eq_true rfl,decide_eq_false (show ¬q=j+1 by omega)]
     exact h.1 j q (by omega) h2 (by omega) (by omega)
    ·by_cases hq:q=j+1
     ·subst hq
      rw[decide_eq_true rfl,decide_eq_false hp]
      exact h.1 p j (by omega) (by omega) hp (by omega)
     ·rw[decide_eq_false hp,decide_eq_false hq]
      exact h.1 p q h1 h2 hp hq
   ·rw[BCR (by omega),BCR (by omega),decide_eq_true rfl,decide_eq_false (show ¬q=j by omega)]
    by_cases hq:q=j+1
    ·subst hq;rw[decide_eq_true rfl];exact Int.le_of_lt hc
    ·rw[decide_eq_false hq];exact h.2 q (by omega) h2
  ·rw[decide_eq_false (λhx=>hc (BXW.1 hx))]
   intro p q h1 h2
   show key (gD l p)<=key (gD l q)
   by_cases hp:p=j+1
   ·subst hp;exact h.2 q h1 h2
   ·by_cases hq:q=j+1
    ·subst hq
     by_cases hpj:p=j
     ·subst hpj;omega
     ·have:=h.1 p j (by omega) (by omega) hp (by omega);omega
    ·exact h.1 p q h1 h2 hp hq
theorem BCZ{key:Int->Int}:∀(n i:Nat) (l:List Int),1<=i->i+n=l.length->upS key (i-1) l->upS key (l.length-1) (stR key n i l)
 |0,i,l,h1,h2,h=>by
  rw[show l.length-1=i-1 by omega];exact h
 |n+1,i,l,h1,h2,h=>by
  unfold stR
  have hp:=AMP (key:=key) i l (by omega)
  have:=BCZ (key:=key) n (i+1) (insJ key i l) (by omega) (by rw[hp.length_eq];omega) (AVJ i l (Nat.le_refl _) (by omega) ⟨λp q a b c d=>h p q a (by omega),λq a b=>by omega⟩)
  rw[hp.length_eq] at this;exact this
theorem BQI(key:Int->Int)(l:List Int):upS key (l.length-1) (stM key l):=by
 unfold stM
 by_cases h:l.length=0
 ·intro p q h1 h2;omega
 ·exact BCZ _ 1 l (Nat.le_refl _) (by omega) (λp q a b=>by omega)
theorem BHE{p:Int->Bool}:∀{l:List Int},(∀t,t<l.length->p (gD l t)=false)->l.find? p=none
 |[],_=>rfl
 |a :: l,h=>by
  have h0:p a=false:=h 0 (Nat.succ_pos _)
  rw[List.find?_cons,h0]
  exact BHE λt ht=>h (t+1) (Nat.succ_lt_succ ht)
theorem BRW{p:Int->Bool}:∀{l:List Int} {j:Nat},j<l.length->(∀t,t<j->p (gD l t)=false)->p (gD l j)=true->l.find? p=some (gD l j)
 |[],j,h,_,_=>absurd h (Nat.not_lt_zero _)
 |a :: l,0,_,_,h2=>by
  have h0:p a=true:=h2
  rw[List.find?_cons,h0];rfl
 |a :: l,j+1,h,h1,h2=>by
  have h0:p a=false:=h1 0 (Nat.succ_pos _)
  rw[List.find?_cons,h0]
  exact BRW (l:=l) (j:=j) (Nat.lt_of_succ_lt_succ h) (λt ht=>h1 (t+1) (Nat.succ_lt_succ ht)) h2
theorem mP{l:List Int}{k t:Nat}(h:t<k):gD (l.take k) t=gD l t:=by
 simp[gD,List.getD_eq_getElem?_getD,List.getElem?_take,h]
end Go.Bal





namespace Go.Bal
open Go Go.Sym Go.Proofs
theorem CJI{a b x y:Int}(h1:x<=a/\a<=y)(h2:x<=b/\b<=y):x<=HJ a b/\HJ a b<=y:=by unfold HJ;split<;>omega
theorem BIJ(a b:Int):a<=HJ a b/\b<=HJ a b:=by unfold HJ;split<;>omega
theorem BUA(a b:Int):QC a b<=a/\QC a b<=b:=by unfold QC;split<;>omega
def nL(B:Int)(s:Span):Prop:=(-B<=s.lo/\s.lo<=B) /\ -B<=s.hi/\s.hi<=B
def gpOk(s:Nat->Span)(n:Nat):Prop:=∀g,g<n->(0<=(s g).lo/\(s g).lo<=200000000)/\0<=(s g).hi/\(s g).hi<=200000000
theorem CGV{l:List Span}{s:Nat->Span}{n:Nat}(hl:∀i,i<=n->nL 1000000000 (gD l i))(hs:gpOk s n)(hn:n<40):∀i,i<=n->fwM l s i=fw (gD l) s i/\nL (1000000000+200000000*i) (fw (gD l) s i)
 |0,_=>⟨rfl,by have:=hl 0 (Nat.zero_le _);show nL _ (gD l 0);unfold nL at *;omega⟩
 |g+1,h=>by
  obtain⟨e,hb⟩:=CGV hl hs hn g (by omega)
  have h1:=hl (g+1) h
  have h2:=hs g (by omega)
  have e2:addS (fw (gD l) s g) (s g)=⟨(fw (gD l) s g).lo+(s g).lo,(fw (gD l) s g).hi+(s g).hi⟩:=by
   unfold addS wr nL at *
   rw[Ap (by omega) (by omega),Ap (by omega) (by omega)]
  refine⟨by show uN _ (addS (fwM l s g) (s g))=_;rw[e,e2];rfl,?_⟩
  show nL _ (uN _ _)
  unfold uN
  generalize fw (gD l) s g=F at *
  generalize gD l (g+1)=L at *
  unfold nL HJ QC at *
  simp only at *
  constructor
  ·split<;>omega
  ·split<;>omega
theorem BYF{f s:Nat->Span}{n:Nat}(hf:∀i,i<=n->nL 10000000000 (f i))(hs:gpOk s n)(hn:n<40):∀j,j<=n->bkM f s n j=bk f s n j/\nL (10000000000+200000000*j) (bk f s n j)
 |0,_=>⟨rfl,by have:=hf n (Nat.le_refl _);show nL _ (f n);unfold nL at *;omega⟩
 |j+1,h=>by
  obtain⟨e,hb⟩:=BYF hf hs hn j (by omega)
  have h1:=hf (n-(j+1)) (by omega)
  have h2:=hs (n-(j+1)) (by omega)
  have e2:subS (bk f s n j) (s (n-(j+1)))=⟨(bk f s n j).lo-(s (n-(j+1))).hi,(bk f s n j).hi-(s (n-(j+1))).lo⟩:=by
   unfold subS wr nL at *
   rw[Ap (by omega) (by omega),Ap (by omega) (by omega)]
  refine⟨by show uN _ (subS (bkM f s n j) (s _))=_;rw[e,e2];rfl,?_⟩
  show nL _ (uN _ _)
  unfold uN
  generalize bk f s n j=F at *
  generalize f (n-(j+1))=L at *
  unfold nL HJ QC at *
  simp only at *
  constructor
  ·split<;>omega
  ·split<;>omega
theorem BRD{f g s:Nat->Span}{n:Nat}(h:∀i,i<=n->f i=g i):∀j,j<=n->bkM f s n j=bkM g s n j
 |0,_=>h n (Nat.le_refl _)
 |j+1,hj=>by
  show uN _ _=uN _ _
  rw[BRD h j (by omega),h _ (by omega)]
theorem ADK{w:Dk}{l:List Span}(h1:1<=l.length)(h40:l.length<=40)(hl:∀i,i<l.length->nL 1000000000 (gD l i))(hs:gpOk (OG w) (l.length-1)){i:Nat}(hi:i<l.length):gD (XS w l) i=nar (gD l) (OG w) (l.length-1) i:=by
 have hf:=CGV (l:=l) (s:=OG w) (n:=l.length-1) (λi h=>hl i (by omega)) hs (by omega)
 unfold XS
 rw[FF _ _ _ hi,BRD (λi h=>(hf i h).1) _ (by omega)]
 refine (BYF (λi h=>?_) hs (by omega) _ (by omega)).1
 have:=(hf i h).2
 unfold nL at *;omega
theorem tS{l:List Span}:l.all Od=true↔∀i,i<l.length->(gD l i).lo<=(gD l i).hi:=by
 rw[List.all_eq_true]
 constructor
 ·intro h i hi;exact of_decide_eq_true (h _ (OH hi))
 ·intro h x hx
  obtain⟨i,hi,rfl⟩:=Df hx
  exact decide_eq_true (h i hi)
theorem We(w:Dk)(l:List Span):(XS w l).length=l.length:=rng_length _ _
theorem BPF{w:Dk}{l:List Span}(h1:1<=l.length)(h40:l.length<=40)(hl:∀i,i<l.length->nL 1000000000 (gD l i))(hs:gpOk (OG w) (l.length-1))(hle:∀g,g<l.length-1->(OG w g).lo<=(OG w g).hi):(XS w l).all Od=true↔∃t,Tr (gD l) (OG w) (l.length-1) t:=by
 rw[<-BAX hle,tS,We]
 constructor
 ·intro h i hi;rw[<-ADK h1 h40 hl hs (by omega)];exact h i (by omega)
 ·intro h i hi;rw[ADK h1 h40 hl hs hi];exact h i (by omega)
end Go.Bal

namespace Go.Bal
open Go Go.Sym Go.Proofs
structure NtOk(m:Int)(n:Nt):Prop where
 mi:0<=n.mi/\n.mi<m
 t:0<=n.t.lo/\n.t.lo<=n.t.hi/\n.t.hi<=10000000
 s:-3000000<=n.s.lo/\n.s.lo<=n.s.hi/\n.s.hi<=3000000
structure ChOk(c:Cht):Prop where
 m:1<=c.ms.length/\c.ms.length<=40
 n:c.ns.length<=20
 p:1<=c.p.lo/\c.p.lo<=c.p.hi/\c.p.hi<=600
 b:-1000000<=c.base/\c.base<=1000000
 sc:0<=c.scale/\c.scale<=1000
 of:0<=c.off/\c.off<=1000
 mks:∀i,i<c.ms.length->(0<=(gD c.ms i).pl/\(gD c.ms i).pl<=10000)/\0<=(gD c.ms i).ht/\(gD c.ms i).ht<=1000
 up:∀i,i+1<c.ms.length->(gD c.ms i).pl<(gD c.ms (i+1)).pl
 nt:∀n∈c.ns,NtOk c.ms.length n
 one:∀i j,i<j->j<c.ns.length->(gD c.ns i).mi≠(gD c.ns j).mi
theorem IX{a b c:Int}:PN a b c=true↔b<=a/\a<=c:=by unfold PN;simp
theorem iP{α:Type}[Inhabited α](a:α)(l:List α)(i:Nat):gD (a :: l) (i+1)=gD l i:=by simp[gD]
theorem pE{α:Type}[Inhabited α](a:α)(l:List α):gD (a :: l) 0=a:=by simp[gD]
theorem BHQ:∀(l:List Mk) (a:Int),A6 a l=0↔(∀i,i<l.length->(0<=(gD l i).pl/\(gD l i).pl<=10000)/\0<=(gD l i).ht/\(gD l i).ht<=1000)/\(0<l.length->a<(gD l 0).pl)/\∀i,i+1<l.length->(gD l i).pl<(gD l (i+1)).pl
 |[],a=>⟨λ_=>⟨λi h=>absurd h (Nat.not_lt_zero _),λh=>absurd h (Nat.not_lt_zero _),λi h=>absurd h (Nat.not_lt_zero _)⟩,λ_=>rfl⟩
 |m :: r,a=>by
  have ih:=BHQ r m.pl
  show (bif (bif !PN m.pl 0 10000 then true else !PN m.ht 0 1000) then (30:Int) else bif decide (m.pl<=a) then 9 else A6 m.pl r)=0↔_
  cases h1:PN m.pl 0 10000 with
  |false=>
   refine⟨λh=>(by cases h),λh=>?_⟩
   have:=h.1 0 (Nat.succ_pos _)
   rw[pE] at this
   rw[IX.2 this.1] at h1;cases h1
  |true=>
   cases h2:PN m.ht 0 1000 with
   |false=>
    refine⟨λh=>(by cases h),λh=>?_⟩
    have:=h.1 0 (Nat.succ_pos _)
    rw[pE] at this
    rw[IX.2 this.2] at h2;cases h2
   |true=>
    have i1:=IX.1 h1
    have i2:=IX.1 h2
    by_cases h3:m.pl<=a
    ·refine⟨λh=>(by rw[decide_eq_true h3] at h;cases h),λh=>?_⟩
     have:=h.2.1 (Nat.succ_pos _)
     rw[pE] at this;omega
    ·rw[decide_eq_false h3]
     refine⟨λh=>?_,λh=>ih.2 ⟨λi hi=>?_,λhr=>?_,λi hi=>?_⟩⟩
     ·obtain⟨a1,a2,a3⟩:=ih.1 h
      refine⟨λi hi=>?_,λ_=>by rw[pE];omega,λi hi=>?_⟩
      ·rcases i with _ | i
       ·rw[pE];exact⟨i1,i2⟩
       ·rw[iP];exact a1 i (by simpa using hi)
      ·rcases i with _ | i
       ·rw[pE,iP];exact a2 (by simpa using hi)
       ·rw[iP,iP];exact a3 i (by simpa using hi)
     ·have:=h.1 (i+1) (Nat.succ_lt_succ hi)
      rw[iP] at this;exact this
     ·have:=h.2.2 0 (by simpa using hr)
      rw[pE,iP] at this;exact this
     ·have:=h.2.2 (i+1) (by simpa using hi)
      rw[iP,iP] at this;exact this
theorem BCY{n:Nt}{m:Nat}(hm:m<=1000):Du n m=true↔NtOk m n:=by
 unfold Du Hx wr
 rw[Ap (by omega) (by omega)]
 simp only[Bool.and_eq_true,IX]
 constructor
 ·rintro⟨⟨h1,h2⟩,h3⟩;exact⟨by omega,by omega,by omega⟩
 ·rintro⟨h1,h2,h3⟩;exact⟨⟨by omega,by omega⟩,by omega⟩
theorem BBB{l:List Nt}{i:Nat}(hi:i<l.length):J3 l i=true↔∀j,j<i->(gD l j).mi≠(gD l i).mi:=by
 unfold J3
 rw[Bool.not_eq_true',List.any_eq_false]
 constructor
 ·intro h j hj e
  have hm:gD l j∈l.take i:=by
   have:gD (l.take i) j=gD l j:=by simp[gD,List.getD_eq_getElem?_getD,List.getElem?_take,hj]
   rw[<-this];exact OH (by rw[List.length_take];omega)
  exact h _ hm (by simpa using e)
 ·intro h x hx
  obtain⟨j,hj,rfl⟩:=Df hx
  have hj:j<i:=by rw[List.length_take] at hj;omega
  have:gD (l.take i) j=gD l j:=by simp[gD,List.getD_eq_getElem?_getD,List.getElem?_take,hj]
  rw[this];simpa using h j hj
theorem AMG{c:Cht}:Gh c=0↔(1<=c.ms.length/\c.ms.length<=40)/\c.ns.length<=20/\(1<=c.p.lo/\c.p.lo<=c.p.hi/\c.p.hi<=600)/\(-1000000<=c.base/\c.base<=1000000)/\(0<=c.scale/\c.scale<=1000)/\0<=c.off/\c.off<=1000:=by
 unfold Gh Hx
 cases a1:PN c.ms.length 1 40 with
 |false=>refine⟨λh=>(by simp at h),λh=>?_⟩;rw[IX.2 (by omega)] at a1;cases a1
 |true=>
  have i1:=IX.1 a1
  by_cases a2:(c.ns.length:Int)>20
  ·refine⟨λh=>(by simp[a2] at h),λh=>(by omega)⟩
  ·simp only[Bool.not_true,cond_false,a2,decide_false]
   cases b1:PN c.p.lo 1 600 with
   |false=>refine⟨λh=>(by simp at h),λh=>?_⟩;rw[IX.2 (by omega)] at b1;cases b1
   |true=>
    cases b2:PN c.p.hi c.p.lo 600 with
    |false=>refine⟨λh=>(by simp at h),λh=>?_⟩;rw[IX.2 (by omega)] at b2;cases b2
    |true=>
     cases b3:PN c.base (-1000000) 1000000 with
     |false=>refine⟨λh=>(by simp at h),λh=>?_⟩;rw[IX.2 (by omega)] at b3;cases b3
     |true=>
      cases b4:PN c.scale 0 1000 with
      |false=>refine⟨λh=>(by simp at h),λh=>?_⟩;rw[IX.2 (by omega)] at b4;cases b4
      |true=>
       cases b5:PN c.off 0 1000 with
       |false=>refine⟨λh=>(by simp at h),λh=>?_⟩;rw[IX.2 (by omega)] at b5;cases b5
       |true=>
        have:=IX.1 b1;have:=IX.1 b2;have:=IX.1 b3;have:=IX.1 b4;have:=IX.1 b5
        exact⟨λ_=>by omega,λ_=>rfl⟩
theorem KB{c:Cht}:AP c=0↔ChOk c:=by
 constructor
 ·intro h
  obtain⟨h1,h2,h3⟩:=PR h
  obtain⟨q1,q2,q3,q4,q5,q6⟩:=AMG.1 h1
  have hr:=(Zu h).2
  unfold AP at h
  rw[h1] at h
  cases hm:(A6 (-1) c.ms != 0) with
  |true=>rw[hm] at h;have h:A6 (-1) c.ms=0:=h;rw[h] at hm;cases hm
  |false=>
   have hm0:A6 (-1) c.ms=0:=by simpa using hm
   rw[hm] at h
   have ha:c.ns.all (λn=>Du n c.ms.length)=true:=List.all_eq_true.2 hr
   rw[ha] at h
   cases hd:Lu (J3 c.ns) c.ns.length with
   |false=>rw[hd] at h;cases h
   |true=>
    obtain⟨m1,_,m3⟩:=(BHQ _ _).1 hm0
    exact⟨q1,q2,q3,q4,q5,q6,m1,m3,λn hn=>(BCY (by omega)).1 (hr n hn),λi j hij hj=>(BBB hj).1 (Rw.1 hd j hj) i hij⟩
 ·intro h
  have e1:=AMG.2 ⟨h.m,h.n,h.p,h.b,h.sc,h.of⟩
  have e2:A6 (-1) c.ms=0:=(BHQ _ _).2 ⟨h.mks,λhp=>by have:=(h.mks 0 hp).1;omega,h.up⟩
  have e3:c.ns.all (λn=>Du n c.ms.length)=true:=List.all_eq_true.2 λn hn=>(BCY (by have:=h.m;omega)).2 (h.nt n hn)
  have e4:Lu (J3 c.ns) c.ns.length=true:=Rw.2 λj hj=>(BBB hj).2 λi hi=>h.one i j hi hj
  unfold AP;rw[e1,e2,e3,e4];rfl
theorem iR{l:List Nt}{j:Int}:hasN l j=true↔∃n∈l,n.mi=j:=by
 unfold hasN;rw[List.any_eq_true];simp
theorem rY:∀{l:List Nt} {j:Int},hasN l j=true->ntOf l j∈l/\(ntOf l j).mi=j
 |[],j,h=>by simp[hasN] at h
 |n :: r,j,h=>by
  show (bif hasN r j then ntOf r j else bif n.mi==j then n else default)∈n :: r/\(bif hasN r j then ntOf r j else bif n.mi==j then n else default).mi=j
  cases hr:hasN r j with
  |true=>obtain⟨a,b⟩:=rY hr;exact⟨List.mem_cons_of_mem _ a,b⟩
  |false=>
   have h2:(n.mi==j||hasN r j)=true:=h
   rw[hr,Bool.or_false] at h2
   rw[h2];exact⟨List.mem_cons_self ..,by simpa using h2⟩
theorem ChOk.ntOf{c:Cht}(h:ChOk c){n:Nt}(hn:n∈c.ns):Bal.ntOf c.ns n.mi=n:=by
 obtain⟨h1,h2⟩:=rY (iR.2 ⟨n,hn,rfl⟩)
 obtain⟨i,hi,e1⟩:=Df hn
 obtain⟨j,hj,e2⟩:=Df h1
 rcases Nat.lt_trichotomy i j with q | q | q
 ·exact absurd (by rw[e1,e2,h2]) (h.one i j q hj)
 ·subst q;rw[<-e2,e1]
 ·exact absurd (by rw[e1,e2,h2]) (h.one j i q hi)
end Go.Bal
