/- Package chart: stages at a time, from a time to another one, and when one is reached. -/
import Derived.Test.YtdbjalgfomknhaaGreatChH
set_option linter.unusedVariables false
set_option linter.unusedSimpArgs false
namespace Go.Bal
open Go Go.Sym Go.Proofs
def zHul:Hul:=⟨⟨0,0⟩,false⟩
structure CZI where
 a:CZ
 t:Int
def dCZI:List AVal->Heap->Option (CZI×List (Nat×Nat)×List Nat)
 |[x,y,.d t],H=>match tN x H,tL y H with
  |some (c,f),some (l,e)=>some (⟨⟨c,l⟩,KN t⟩,[],f ++ e)
  |_,_=>none
 |_,_=>none
def xCZI(x:CZI):List AVal:=[.d (Nj x.a.c),.d (GB x.a.z),.int x.t]
def ZJ(a:CZ):List Span:=(JD (FZ a)).1
theorem BHC(h:Hul):Hul.mk h.s h.m=h:=rfl
theorem CHX(a:CZ):(JD (FZ a)).1=ZJ a:=rfl
theorem hX{a:CZ}(h:DJ a=0):(ZJ a).length=a.c.ms.length:=by
 have h3:=(As h).2.2
 unfold ZJ
 unfold JD at h3 ⊢
 rw[Uk] at h3 ⊢
 cases hs:Mg a.c with
 |false=>rw[hs] at h3;cases h3
 |true=>show (XS _ _).length=_;unfold XS;rw[rng_length,QM]
theorem P9(c:Cht):(Jp c).length=c.ms.length:=rng_length _ _
def yI(a:CZ)(t:Int):Nat->Hul
 |0=>zHul
 |k+1=>bif PN t (gD (ZJ a) k).lo (gD (ZJ a) k).hi then Na (yI a t k) (gD (Jp a.c) k) else yI a t k
def AHR(a:CZ)(t:Int)(g:Nat):Bool:=(XS (FZ a) (V3 (ZJ a) ((g:Int)+1) (wr (t-1)) (wr (t+1)))).all Od
def sW(a:CZ)(t:Int):Nat->Hul
 |0=>yI a t a.c.ms.length
 |g+1=>bif AHR a t g then Na (Na (sW a t g) (gD (Jp a.c) g)) (gD (Jp a.c) (g+1)) else sW a t g
def A0(x:CZI):Hul:=bif PN x.t (-100000000) 100000000 then sW x.a x.t (x.a.c.ms.length-1) else yI x.a x.t x.a.c.ms.length
def Yb(x:CZI):Span×Int:=bif DJ x.a==0 then bU (A0 x) else (⟨0,0⟩,DJ x.a)
def C_Stage:Ctr:={ α:=CZI,xs:=xCZI,val:=λx=>.tup [.d (MV (Yb x).1),.int (Yb x).2],keep:=λ_=>[],pre:=λx=>[x.a.c.ms.length<4611686018427387904/\x.a.c.ns.length<4611686018427387904/\x.a.z.length<4611686018427387904] }
def sgH(x:CZI)(h:Hul):List (Nat×HCell):=[(201,.live (.box [.int x.t])),(202,.live (.box [.int 0,.int 0])),(203,.live (.box [.bptr 208 0])),(204,.live (.box [.d (HA (ZJ x.a))])),(205,.live (.box [.d (HA (Jp x.a.c))])),(206,.live (hlB h)),(207,.live (.box [.fn (.func ASY) [.bptr 206 0] []])),(208,.live (dkB (FZ x.a) 209)),(209,.live (dkM (FZ x.a)))]
def sg7(x:CZI):Shape:={ α:=Nat,dflt:=0,T:=λk=>⟨[(5,.bptr 201 0),(6,.bptr 202 0),(8,.bptr 203 0),(9,.bptr 204 0),(10,.bptr 205 0),(12,.bptr 206 0),(13,.bptr 207 0),(32,.int x.a.c.ms.length),(33,.int k)],sgH x (yI x.a x.t k)⟩,inv:=λk=>k<=x.a.c.ms.length,meas:=λk=>x.a.c.ms.length-k,first:=[(201,1016),(202,1032),(203,2128),(204,2144),(205,2160),(206,5000),(207,6016),(208,2032),(209,2033)] }
def sg1(x:CZI)(l:Nat):Shape:={ α:=Nat,dflt:=0,T:=λg=>⟨[(0,.fn (.yield l) [] []),(1,.bptr 14016 0),(12,.int (wr ((x.a.c.ms.length:Int)-1))),(13,.int g)],sgH x (sW x.a x.t g) ++ [(14016,.live (.box [.bptr 208 0]))]⟩,inv:=λg=>g<=x.a.c.ms.length-1,meas:=λg=>50-g }
noncomputable def itSg(x:CZI):IterAnn:={ fn:=mK,code:=AJ mK,live:=[5,6,8,9,10,12,13],ann:={ base:=λid=>100000+1000*(id+1),Γ:=Sym.look [],E:=[201,202,203,204,205,206,207,208,209,14016],n:=66,inner:=λgs id=>if id=1 then some [sg1 x (gs.getD 0 0)] else none } }
noncomputable def BRY(x:CZI):Ann:={ ann 92 [(dU,C_rdO.spec B6),(n_in,s_in),(ASY,C_hadd.spec dHuS),(AMK,C_gaps.spec sX),(AIR,C_part.spec dDkQ),(No,C_nar.spec dDkS),(AIO,C_who.spec dHu1)] with iter:=λg=>if g=bO then some (itSg x) else none,loops:=λid=>if id=7 then some [sg7 x] else none }
def BKI:Ann:=ann 92 [(dU,C_rdX.spec B6)]
def BRL(x:CZI):Prop:=ES Try.prog (BRY x) AIB (AJ AIB) (xCZI x) (AD []) (.tup [.d (MV (bU (A0 x)).1),.int (bU (A0 x)).2]) [] [] []
abbrev JV:=CZI.a
abbrev Ma:=CZI.t
abbrev eQ a b:=Hul.mk a (bC b)
abbrev vW a b:=yI (JV a) (Ma a) b
abbrev TJ a b:=Ti (vW a b)
abbrev kF a b:=aS (eQ a b)
abbrev oN a b c d:=AI a b c d b
abbrev AVD a b c:=oN a b c a
abbrev Tk a b:=bC (vW a b)
abbrev bH a b:=sW (JV a) (Ma a) b
abbrev PE a b:=Ti (bH a b)
abbrev Po a b:=bC (bH a b)
abbrev BNI a b:=FV a b b
abbrev GV a:=FN (JV a)
abbrev NW a:=AX (GV a)
abbrev pF a:=WX (NW a)
abbrev Uh a b c:=Sz a b BP c
abbrev Ru a b c d e:=Aq a b c d (Cp d (λi=>XD i e) (Ko e))
abbrev ET a:=LX (JV a)
abbrev Hc a:=Lh (GV a)
abbrev vC a:=RE (Hc a)
abbrev wY a:=SK (Hc a)
abbrev UU a:=ZJ (JV a)
abbrev Ku a:=RE (UU a)
abbrev Lk a:=SK (UU a)
abbrev Fu a:=AF (Ma a)
abbrev Vz a b c:=wZ (eQ a b) c
abbrev kP a b:=OV (Hc a) b
abbrev B8 a:=HR (Ma a)
abbrev G4 a b:=AE (ET a) b
abbrev C2 a b:=AC (ET a) b
abbrev C3 a b c:=DT a b c b
abbrev Kb a:=IH (UU a)
abbrev tP a b:=Qh a b a
abbrev Cr a:=tP (JV a) (GV a)
abbrev Sw a b:=AUT (Cr a) (JV b)
abbrev Ba a:=Qp (Cr a) (JV a)
abbrev Nu a b:=AE (GV a) b
abbrev Mz a b:=AR (GV a) b
abbrev Nb a b:=AL (GV a) b
abbrev Mp a b:=AC (GV a) b
abbrev Oa a b:=AS (GV a) b
abbrev Nr a b:=AN (GV a) b
abbrev Ny a b:=AM (GV a) b
abbrev Sj a b:=Dj (JV a) (GV b)
abbrev Nk a b:=Al (JV a) (GV b)
abbrev ZQ a:=NZ (JV a)
abbrev YY a:=NX (JV a)
attribute [go_sem] JV Ma eQ vW TJ kF oN AVD Tk bH PE Po BNI GV NW pF Uh Ru ET Hc vC wY UU Ku Lk Fu Vz kP B8 G4 C2 C3 Kb tP Cr Sw Ba Nu Mz Nb Mp Oa Nr Ny Sj Nk ZQ YY
theorem CBY(x:CZI):(BRL x)=(LF (MO (YY x) (ZQ x) (GV x) (YZ (GV x) (Nk x x) (Sj x x) (λi=>AT i (GV x) (Ny x i) (Nr x i) (Oa x i) (Mp x i) (Nb x i) (Mz x i) (Nu x i)) (JV x) (Jx (JV x) (GV x)) (Pf (Ba x)))) (KI (λi=>BL (CV (NW x) (IH (Kx (Ba x)))) (Uh (CQ i) (Fu x) (AI (ML (UU x) (Kx (Ba x))) (XQ (UU x) (Kx (Ba x))) (ML (Hc x) (Lh (Cr x))) (XQ (Hc x) (Lh (Cr x))) (BB (UO (TJ x i)) (WH (TJ x i)) (DZ (Tk x i)) (GM (ET x) (Sw x x)) (CY (ET x) (Sw x x)) (GO (ET x) (Sw x x)) (GH (ET x) (Sw x x)) (GK (ET x) (Sw x x)) (Fw (VK (ET x) (Sw x x)) (VH (ET x) (Sw x x)) (XF (ET x) (Sw x x)) (λj=>AU j (ET x) (PT (ET x) j (Sw x x)) (Gu (ET x) j (Sw x x) j) (C2 x j) (AC (Sw x x) j) (Er (ET x) j (Sw x x) j) (G4 x j) (AE (Sw x x) j)) (λj=>Jw j (Dc (JV x) j) (Dc (Ba x) j)) LR (λj=>Hv (ET x) j (Sw x x) j) (λj=>Ul (JV x) j (Yk (Ba x) j)) (λj=>Gs (ET x) j (Sw x x) j j j))))) (ED i (NW x)))) (λi=>Fe i (NW x) (Sp i (GV x)) (C3 (DX i) (Jz i (Kb x)) (DX i)) (EZ (PN (Ma x) (VG (UU x) i) (XB (UU x) i)) (CL i (IH (Hc x)) (AI (ZP (Hc x) i) (ZR (Hc x) i) (BZ (TJ x i)) (IS (TJ x i)) (GJ (Tk x i)))) (KI (λj=>FH (Kn (GV x)) (Uh (BA j i) (Fu x) (AI (Lk x) (Ku x) (wY x) (vC x) (Ru (AZ (TJ x j) (Vz (TJ x i) (vW x i) (kP x i))) (AQ (TJ x j) (Vz (TJ x i) (vW x i) (kP x i))) (EA (Tk x j)) (ET x) (JV x)))) (ED j (NW x)) (NW x) j i)) (KI (λj=>FH (Kn (GV x)) (Uh (BA j i) (Fu x) (AI (Lk x) (Ku x) (wY x) (vC x) (Ru (AZ (TJ x j) (TJ x i)) (AQ (TJ x j) (TJ x i)) (MD (Tk x j) (Tk x i)) (ET x) (JV x)))) (ED j (NW x)) (NW x) j i))) (FV (Pm (Ma x)) (HV (BY (ET x)) (DF (ET x)) (BM (ET x)) (ZE (BV (ET x)) (BQ (ET x)) (BW (ET x)) (DK (ET x)) (BO (ET x)) (AB (λj=>AT j (ET x) (AM (ET x) j) (AN (ET x) j) (AS (ET x) j) (C2 x j) (AL (ET x) j) (AR (ET x) j) (G4 x j))) (λj=>XD j (JV x)) (Aq (TE (ET x)) (Hk (JV x)) (MF (ET x)) (ET x) (TF (HS (ET x)) (Gc (ET x)) (KS (ET x)) (λj=>AU j (ET x) (EI (ET x) j) (EJ (ET x) j) (C2 x j) (AS (ET x) j) (EH (ET x) j) (G4 x j) (AR (ET x) j)) (λj=>XD j (JV x)) (WJ (ET x)) (Ko (JV x)) (VZ (ET x))))) (AB (λj=>HX (λk=>Kk (AH (Fy j) (Ld (Pd (GV x)) (MZ (ET x))) (Uh (CQ k) (Fu x) (AI (Lk x) (Ku x) (wY x) (vC x) (Ru (AZ (PE x k) (TJ x i)) (AQ (PE x k) (TJ x i)) (MD (Po x k) (Tk x i)) (ET x) (JV x))))) k (pF x)) (λk=>Fe k (pF x) (FK k (Pd (GV x))) (Gv (FE k) (ET x) (DX k) (cN k (ET x))) (QN k 40 (Xu k) (BNI (Dc (JV x) k) (jD j (AH (RJ (UU x)) (Fa (UU x)) (Aq (AF (FE k)) (AF (ZN (Ma x))) (AF (B8 x)) (ET x) (UZ (ET x) (λl=>AT l (ET x) (AM (ET x) l) (AN (ET x) l) (AS (ET x) l) (C2 x l) (AL (ET x) l) (AR (ET x) l) (G4 x l)) (λl=>XD l (JV x)) (Ko (JV x)) (QG (MF (ET x)) (BY (ET x)) (ET x) (BM (ET x)) (BV (ET x)) (BQ (ET x)) (HS (ET x)) (λl=>JL l (ET x)) (VP (ET x) (λl=>AU l (ET x) (EI (ET x) l) (EJ (ET x) l) (C2 x l) (AS (ET x) l) (EH (ET x) l) (G4 x l) (AR (ET x) l)) (λl=>XD l (JV x)) (Hk (JV x)) (DT (NF (OM (UU x))) (CW (OM (UU x)) 40) (BX (FE k)) (Hr (FE k) (OM (UU x)))) (IA (RJ (O4 (UU x) (FE k) (Ma x) (B8 x))) (λl=>Kt l (O4 (UU x) (FE k) (Ma x) (B8 x))) (BY (ET x)) (DF (ET x)) (BM (ET x)) (BV (ET x)) (BQ (ET x)) (BW (ET x)) (Hp (ET x) (λl=>AT l (ET x) (AM (ET x) l) (AN (ET x) l) (AS (ET x) l) (C2 x l) (AL (ET x) l) (AR (ET x) l) (G4 x l)) (AB (λl=>XD l (JV x))) (Hk (JV x)) (Bh (λl=>AU l (ET x) (EI (ET x) l) (EJ (ET x) l) (C2 x l) (AS (ET x) l) (EH (ET x) l) (G4 x l) (AR (ET x) l)) (λl=>XD l (JV x)) (ET x) (Hk (JV x)) (Te (OM (O4 (UU x) (FE k) (Ma x) (B8 x))) (ET x)) (Ci (ET x)) (ZB (ET x)))))))))) (WF (Ia (Lt (FQ (ET x)) (Ko (JV x)) (O4 (UU x) (FE k) (Ma x) (B8 x)))) (AH (CL k (IH (Hc x)) (AI (ZP (Hc x) k) (ZR (Hc x) k) (BZ (PE x k)) (IS (PE x k)) (GJ (Po x k)))) (WY (FE k) (IH (Hc x)) (AI (ZP (Hc x) (Ib k)) (ZR (Hc x) (Ib k)) (BZ (Vz (PE x k) (bH x k) (kP x k))) (IS (Vz (PE x k) (bH x k) (kP x k))) IU)) (KI (λl=>Fv (AH (Fy j) (AF (Pd (GV x))) (Uh (BA l k) (Fu x) (AI (Lk x) (Ku x) (wY x) (vC x) (Ru (AZ (PE x l) (Vz (Vz (PE x k) (bH x k) (kP x k)) (Na (eQ (PE x k) (bH x k)) (kP x k)) (kP x (Ib k)))) (AQ (PE x l) (Vz (Vz (PE x k) (bH x k) (kP x k)) (Na (eQ (PE x k) (bH x k)) (kP x k)) (kP x (Ib k)))) (EA (Po x l)) (ET x) (JV x))))) (ED l (pF x)) l k))) (λl=>Fv (AH (Fy j) (AF (Pd (GV x))) (Uh (BA l k) (Fu x) (AI (Lk x) (Ku x) (wY x) (vC x) (Ru (AZ (PE x l) (PE x k)) (AQ (PE x l) (PE x k)) (MD (Po x l) (Po x k)) (ET x) (JV x))))) (ED l (pF x)) l k))))) (BL (BZ (PE x k)) (AVD (IS (PE x k)) (GJ (Po x k)) (BZ (PE x k))) (SY (AZ (aS (A0 x)) (kF (PE x k) (bH x k))) (AQ (aS (A0 x)) (kF (PE x k) (bH x k))) (Zs (A0 x)) (Zs (eQ (PE x k) (bH x k))))))))) (BL (BZ (TJ x i)) (AVD (IS (TJ x i)) (GJ (Tk x i)) (BZ (TJ x i))) (SY (AZ (aS (A0 x)) (kF (TJ x i) (vW x i))) (AQ (aS (A0 x)) (kF (TJ x i) (vW x i))) (Zs (A0 x)) (Zs (eQ (TJ x i) (vW x i)))))))):=by kernel_rfl
def BKG(x:CZI):Prop:=ES Try.prog BKI AIB (AJ AIB) (xCZI x) (AD []) (.tup [.d (MV zSp),.int (DJ x.a)]) [] [] []
abbrev E2 a:=Ek (Ba a)
attribute [go_sem] E2
theorem BVV(x:CZI):(BKG x)=(And (MO (YY x) (ZQ x) (GV x) (YZ (GV x) (Nk x x) (Sj x x) (λi=>AT i (GV x) (Ny x i) (Nr x i) (Oa x i) (Mp x i) (Nb x i) (Mz x i) (Nu x i)) (JV x) (Jx (JV x) (GV x)) (NQ (E2 x)))) (Sl (MG (E2 x)) BP (Ek (JV x)) (E2 x) VS)):=by kernel_rfl
theorem CKJ(x:CZI)(h1:x.a.c.ms.length<4611686018427387904/\x.a.c.ns.length<4611686018427387904/\x.a.z.length<4611686018427387904)(c0:DJ x.a=0):BRL x:=by
 have tl:=hX c0
 have sl:=P9 x.a.c
 have hl:=PR (As c0).1
 obtain⟨_,⟨n1,n2⟩,_⟩:=hl
 have w1:wr ((x.a.c.ms.length:Int)-1)=((x.a.c.ms.length-1:Nat):Int):=by unfold wr;rw[Ap (by omega) (by omega)];omega
 have w2:IntKind.i64.wrap ((x.a.c.ms.length:Int)-1)=((x.a.c.ms.length-1:Nat):Int):=w1
 have po:∀g:Nat,(XS (FZ x.a) (V3 (ZJ x.a) ((g:Int)+1) (IntKind.i64.wrap (x.t-1)) (IntKind.i64.wrap (x.t+1)))).all Od=AHR x.a x.t g:=λ_=>rfl
 rw[CBY]<;> delta MD Iv BH BK DY RD RU Mr EM EO CH IH AB CJ CE AY OV CG MY CW FV NL HD KA UI IG EB FX EC GY GX GR GG DV FO FU KI Me hd84 FP FS El LW HM YU KM WU ED BN YV WT FN TW Ko Lh Y3 qE XT Ek bC Ti sN zY JV Ma AH CK IW AX JE AI LX WE BC AV AF IK IN BNI BI GJ oN AVD Sz AQ WV JB BB AC Kv BZ CN Eh BF ADZ MC AE Ei AO BD HK DD LZ AZ GV DC BR BE BS BJ JQ Ch AR BQ Au IS LY SZ BV HF ZK CI OC AUT ET EQ GQ Yv BL Qh AS BM CY Oc BY ER FL EV CF IE HR BX TV KL CU GW YS Cy HO DN GD CX OT OR Cx OE LH Av FQ DF DU tP HY IC MZ DR OU HG OD QQ EA Ql DT LR Gi KQ UU HH FE FG FW Qe AT yV ADY IZ SK Qp VV MJ JA ZN DX HE OF OS CR EZ EX JJ BA ZR BP WK OM NF RG Fs CV AU DO DI WX NZ DZ HU WO HW BO BW JH Zq JG C3 AL AN AM LJ KO GP ID HQ XK VX Ct NP ZP FK MQ KX JC MN NX DK VI IU JU LS SC Bt FT QD JW GK MH XD Eb NV JZ GM GH FA TF TQ TO CQ GO KS HS CL Gr bH Cr XP PT EH EJ EI RE RL NW FH IL ML Ib Fo Eo Pf Al JK vW VB Do JL Hc IF IA Ha HX PE TE HV Hk LF TJ XE VK UC XF Fh YC Ff Dv MF WJ Gw XR Te eQ VG Cp VZ Dj MO Mw XB Va Cl Pe Kd YY cU ZQ Kb Pd SY Ad Aj RJ YG WA WL Ba Hf Hr Ci Fu UO VH Pm Fy WH VQ aP Aq QN ZB Sy Dl Dc Kx aS Jz wZ Ku Lk Ia WF Po WY Io Kt Gd Sw Kn QG Lx Yk XQ Tk Fa Lt jD Gc YJ Jt Pq Nk Ny Ld Nr Hv Vz Nb Er ZE Fv Jx Oa Gv Gu ALL Mz kP Zs Nu Wy Kk VP Ru UZ Mp pF Jw Uh Fe Xd Sj O4 kF Sp vC Xb wY Xu Gs Vw Fw cN Hp Ul C2 G4 B8 YZ Bh;simp only[CC,eq_self,implies_true,forall_const,FR,fK,Uk,Ee,bD,BHC,CHX];simp only[tl,sl,w1,w2,zP]
 have e1:∀k,PN x.t (gD (ZJ x.a) k).lo (gD (ZJ x.a) k).hi=true->yI x.a x.t (k+1)=Na (yI x.a x.t k) (gD (Jp x.a.c) k):=λk h=>by
  show (bif PN x.t (gD (ZJ x.a) k).lo (gD (ZJ x.a) k).hi then _ else _)=_;rw[h];rfl
 have e0:∀k,PN x.t (gD (ZJ x.a) k).lo (gD (ZJ x.a) k).hi=false->yI x.a x.t (k+1)=yI x.a x.t k:=λk h=>by
  show (bif PN x.t (gD (ZJ x.a) k).lo (gD (ZJ x.a) k).hi then _ else _)=_;rw[h];rfl
 have f1:∀g,AHR x.a x.t g=true->sW x.a x.t (g+1)=Na (Na (sW x.a x.t g) (gD (Jp x.a.c) g)) (gD (Jp x.a.c) (g+1)):=λg h=>by
  show (bif AHR x.a x.t g then _ else _)=_;rw[h];rfl
 have f0:∀g,AHR x.a x.t g=false->sW x.a x.t (g+1)=sW x.a x.t g:=λg h=>by
  show (bif AHR x.a x.t g then _ else _)=_;rw[h];rfl
 refine⟨⟨h1,c0⟩,⟨0,⟨trivial,rfl,rfl,rfl,rfl⟩,Nat.zero_le _⟩,λk hk=>⟨λhlt=>⟨by omega,λhin=>⟨by omega,k+1,⟨(II (by omega)).symm,?_,?_,?_⟩,by omega,by omega⟩,λhin=>⟨k+1,⟨(II (by omega)).symm,?_,?_,?_⟩,by omega,by omega⟩⟩,λhge=>⟨λht=>⟨⟨0,⟨trivial,rfl,?_,?_,?_⟩,Nat.zero_le _⟩,λg hg=>⟨λhlt=>?_,λhgg=>?_⟩⟩,λht=>?_⟩⟩⟩
 ·rw[e1 k hin]
 ·rw[e1 k hin]
 ·rw[e1 k hin];rfl
 ·rw[e0 k hin]
 ·rw[e0 k hin]
 ·rw[e0 k hin]
 ·obtain rfl:k=x.a.c.ms.length:=by omega
  rfl
 ·obtain rfl:k=x.a.c.ms.length:=by omega
  rfl
 ·obtain rfl:k=x.a.c.ms.length:=by omega
  rfl
 ·have hlt:g<x.a.c.ms.length-1:=by omega
  have ew:IntKind.i64.wrap ((g:Int)+1)=(g:Int)+1:=by rw[II (by omega)];rfl
  have tn:((g:Int)+1).toNat=g+1:=by omega
  have ec:((g+1:Nat):Int)=(g:Int)+1:=rfl
  simp only[ew,tn,po]
  have body:((((0:Nat)<x.a.c.ms.length/\x.a.c.ms.length<=40)/\0<=(g:Int)+1/\(g:Int)+1<=x.a.c.ms.length)):=⟨⟨by omega,by omega⟩,by omega,by omega⟩
  refine⟨⟨⟨by omega,by omega⟩,by omega,by omega⟩,⟨by omega,by omega⟩,by omega,λ_=>?_,λ_=>?_⟩ <;>
  ·refine⟨⟨body,trivial,by omega,n2⟩,λh=>⟨⟨by omega,by omega⟩,⟨by omega,by omega⟩,g+1,⟨ec,?_,?_,?_⟩,by omega,by omega⟩,λh=>⟨g+1,⟨ec,?_,?_,?_⟩,by omega,by omega⟩⟩
   ·rw[f1 g h]
   ·rw[f1 g h]
   ·rw[f1 g h];rfl
   ·rw[f0 g h]
   ·rw[f0 g h]
   ·rw[f0 g h]
 ·obtain rfl:g=x.a.c.ms.length-1:=by omega
  have:A0 x=sW x.a x.t (x.a.c.ms.length-1):=by unfold A0;rw[ht];rfl
  rw[this];exact⟨rfl,rfl,rfl⟩
 ·obtain rfl:k=x.a.c.ms.length:=by omega
  have:A0 x=yI x.a x.t x.a.c.ms.length:=by unfold A0;rw[ht];rfl
  rw[this];exact⟨rfl,rfl,rfl⟩
def iO(x:CZI):Nat->Hul×Bool
 |0=>(zHul,false)
 |k+1=>bif (iO x k).2 then iO x k else bif decide ((gD (Jp x.a.c) k).hi>=x.t) then (Na (iO x k).1 (gD (ZJ x.a) k),decide ((gD (Jp x.a.c) k).lo>=x.t)) else iO x k
structure FsR where
 s:Span
 b:Bool
 e:Int
def fsV(x:CZI):FsR:=⟨(bU (iO x x.a.c.ms.length).1).1,bif (iO x x.a.c.ms.length).2 then (bU (iO x x.a.c.ms.length).1).2==0 else false,(bU (iO x x.a.c.ms.length).1).2⟩
def Px(x:CZI):FsR:=bif DJ x.a==0 then fsV x else⟨⟨0,0⟩,false,DJ x.a⟩
def C_First:Ctr:={ α:=CZI,xs:=xCZI,val:=λx=>.tup [.d (MV (Px x).s),.bool (Px x).b,.int (Px x).e],keep:=λ_=>[],pre:=λx=>[x.a.c.ms.length<4611686018427387904/\x.a.c.ns.length<4611686018427387904/\x.a.z.length<4611686018427387904] }
def fs7(x:CZI):Shape:={ α:=Nat,dflt:=0,T:=λk=>⟨[(2,.int x.t),(6,.bptr 202 0),(10,.d (HA (ZJ x.a))),(11,.d (HA (Jp x.a.c))),(13,.bptr 206 0),(14,.bool (iO x k).2),(15,.int k)],[(202,.live (.box [.int 0,.int 0])),(206,.live (hlB (iO x k).1))]⟩,inv:=λk=>k<=x.a.c.ms.length,meas:=λk=>x.a.c.ms.length-k,first:=[(202,1016),(206,5000)] }
def BUS(x:CZI):Ann:={ ann 69 [(dU,C_rdO.spec B6),(ASY,C_hadd.spec dHuS),(AIO,C_who.spec dHu1)] with loops:=λid=>if id=7 then some [fs7 x] else none }
def BKT:Ann:=ann 69 [(dU,C_rdX.spec B6)]
def BSI(x:CZI):Prop:=ES Try.prog (BUS x) AIQ (AJ AIQ) (xCZI x) (AD []) (.tup [.d (MV (fsV x).s),.bool (fsV x).b,.int (fsV x).e]) [] [] []
abbrev mE:=FsR.s
abbrev rX:=FsR.b
abbrev pT:=FsR.e
abbrev oX a b:=(@Prod.fst Hul Bool) (iO a b)
abbrev RS a b:=Ti (oX a b)
abbrev gJ a b:=(@Prod.snd Hul Bool) (iO a b)
abbrev Pp a b:=bC (oX a b)
attribute [go_sem] mE rX pT oX RS gJ Pp
theorem BYW(x:CZI):(BSI x)=(LF (MO (YY x) (ZQ x) (GV x) (YZ (GV x) (Nk x x) (Sj x x) (λi=>AT i (GV x) (Ny x i) (Nr x i) (Oa x i) (Mp x i) (Nb x i) (Mz x i) (Nu x i)) (JV x) (Jx (JV x) (GV x)) (Pf (Ba x)))) (KI (λi=>BL (Fu x) (CS (ML (UU x) (Kx (Ba x))) (XQ (UU x) (Kx (Ba x))) (ML (Hc x) (Lh (Cr x))) (XQ (Hc x) (Lh (Cr x))) (DZ (gJ x i)) (CQ i) (Qo BP (UO (RS x i)) (WH (RS x i)) (DZ (Pp x i)))) (ED i (NW x)))) (λi=>FA i (NW x) (FV (Ug (JY i (Kb x)) (gJ x i)) (CL i (IH (Hc x)) (WF (tJ (XB (Hc x) i) (Ma x)) (AH (CL i (Kb x) (AI (ZP (UU x) i) (ZR (UU x) i) (BZ (RS x i)) (IS (RS x i)) (GJ (Pp x i)))) (NJ i (IH (Hc x))) (KI (λj=>FH (Fu x) (CS (Lk x) (Ku x) (wY x) (vC x) (MD (gJ x j) (tJ (VG (Hc x) i) (Ma x))) (BA j i) (Qo BP (AZ (RS x j) (Vz (RS x i) (oX x i) (OV (UU x) i))) (AQ (RS x j) (Vz (RS x i) (oX x i) (OV (UU x) i))) (EA (Pp x j)))) (ED j (NW x)) (NW x) j i))) (λj=>FH (Fu x) (CS (Lk x) (Ku x) (wY x) (vC x) (MD (gJ x j) (gJ x i)) (BA j i) (Qo BP (AZ (RS x j) (RS x i)) (AQ (RS x j) (RS x i)) (MD (Pp x j) (Pp x i)))) (ED j (NW x)) (NW x) j i))) (DD (And (BZ (RS x i)) (AVD (IS (RS x i)) (GJ (Pp x i)) (BZ (RS x i)))) (AZ (mE (fsV x)) (kF (RS x i) (oX x i))) (mE (fsV x)) (kF (RS x i) (oX x i)) (MD (rX (fsV x)) (IB (gJ x i) (Ob (Zs (eQ (RS x i) (oX x i)))))) (AY (pT (fsV x)) (Zs (eQ (RS x i) (oX x i)))))))):=by kernel_rfl
def BMN(x:CZI):Prop:=ES Try.prog BKT AIQ (AJ AIQ) (xCZI x) (AD []) (.tup [.d (MV zSp),.bool false,.int (DJ x.a)]) [] [] []
abbrev Hy:=GJ Iv
attribute [go_sem] Hy
theorem BVW(x:CZI):(BMN x)=(Ic (MO (YY x) (ZQ x) (GV x) (YZ (GV x) (Nk x x) (Sj x x) (λi=>AT i (GV x) (Ny x i) (Nr x i) (Oa x i) (Mp x i) (Nb x i) (Mz x i) (Nu x i)) (JV x) (Jx (JV x) (GV x)) (NQ (E2 x)))) (MG (E2 x)) BP (SY BP Hy (Ek (JV x)) (E2 x)) VS):=by kernel_rfl
theorem BLO:AW Try.prog AXQ (C_Stage.spec dCZI):=okT C_Stage (λ(x:CZI) h=>by
 have h1:x.a.c.ms.length<4611686018427387904/\x.a.c.ns.length<4611686018427387904/\x.a.z.length<4611686018427387904:=h
 by_cases c0:DJ x.a=0
 ·have e:C_Stage.val x=.tup [.d (MV (bU (A0 x)).1),.int (bU (A0 x)).2]:=by
   show AVal.tup [.d (MV (Yb x).1),.int (Yb x).2]=_
   unfold Yb;rw[c0];rfl
  rw[e]
  exact Wk (A:=BRY x) (L:=[]) (keep:=[]) (ren:=[]) (fz:=[]) BLD (by kernel_rfl) (AA BAR (AA R9 (AA BIA (AA AKC (AA BUN (AA BCE (AA BPH AK))))))) (CKJ x h1 c0) (BMJ bO (itSg x) rfl rfl AK X9 (by kernel_rfl) (by kernel_rfl))
 ·have c0':(DJ x.a==0)=false:=by simpa using c0
  have e:C_Stage.val x=.tup [.d (MV zSp),.int (DJ x.a)]:=by
   show AVal.tup [.d (MV (Yb x).1),.int (Yb x).2]=_
   unfold Yb;rw[c0'];rfl
  rw[e]
  refine Wk (A:=BKI) (L:=[]) (keep:=[]) (ren:=[]) (fz:=[]) BLD (by kernel_rfl) (AA AZP AK) ?_
  show BKG x;rw[BVV]<;> delta BH BK DY EM EO CH AB CJ CE AY MY FV EB FX EC GY GX GR GG DV FO FU FP FS El QR VS FN TW Rn XT Ek JV AH CK IW AX JE AI WE BC AV AF IK IN YX AQ WV JB BB AC Kv BZ CN BF MC AE Ei AO BD DD LZ AZ GV DC BR BE BS BJ AR BQ Au IS BV HF CI GQ Qh AS BM ER EV CF IE CU GW Cy HO CX DU tP HY IC DR HH FW AT IZ Qp VV JA OS BP NZ BO AL AN AM LJ KO NX NV Cr IL Al VB XE UC NQ YC XR MG Dj MO YY ZQ Ad Aj WA WL Ba Ht Dl YJ Nk Ny Nr Nb Jx Oa Mz Nu Mp Sj Sl YZ E2;simp only[CC,eq_self,implies_true,forall_const,FR,Ee]
  exact⟨⟨h1,c0⟩,λh=>by simp[c0] at h⟩) _
theorem BVE{x:CZI}{k:Nat}(h:(iO x k).2=true):∀d,iO x (k+d)=iO x k
 |0=>rfl
 |d+1=>by
  have ih:=BVE h d
  show (bif (iO x (k+d)).2 then iO x (k+d) else _)=_
  rw[ih,h];rfl
theorem CLS(x:CZI)(h1:x.a.c.ms.length<4611686018427387904/\x.a.c.ns.length<4611686018427387904/\x.a.z.length<4611686018427387904)(c0:DJ x.a=0):BSI x:=by
 have tl:=hX c0
 have sl:=P9 x.a.c
 obtain⟨_,⟨n1,n2⟩,_⟩:=PR (As c0).1
 rw[BYW]<;> delta MD N6 tJ Iv BH BK DY RD RU EM EO CH IH AB CJ CE AY OV CG MY FV NL HD KA UI IG EB FX EC GY GX GR GG DV FO FU KI FP FS El Og LW ED FN TW Ko Lh Y3 qE XT Ek bC Ti sN zY JV Ma mE rX pT AH CK IW AX JE AI WE BC AV AF IK IN BI GJ oN AVD Qo AQ WV JB BB AC Kv BZ CN BF MC AE Ei AO BD DD LZ AZ GV DC BR BE BS BJ JQ AR BQ Au IS BV HF CI EQ GQ BL Qh AS BM ER FL EV CF IE HR BX CU GW Cy HO DN CX DU tP HY IC DR QQ EA DT UU HH FE FG FW AT IZ SK Qp VV MJ JA ZS DX OS EX JJ BA ZR BP CS NZ DZ HW BO JH AL AN AM LJ KO ZP FK KX NX LS Bt NV oX FA IB TO CQ CL Cr XP RE JY NW FH IL ML Pf Al Dt VB Hc RS LF XE UC NJ YC XR eQ VG Dj MO XB YY cU ZQ Kb Ad Aj WA WL Ba Fu UO WH Dl Kx aS wZ Ku Lk WF Io Pp XQ YJ Nk Ny Nr Vz Ug Nb Jx Oa Ob Mz gJ Zs Nu Mp Sj kF vC wY YZ;simp only[CC,eq_self,implies_true,forall_const,FR,fK,Uk,Ee,bD,BHC,CHX];simp only[tl,sl]
 refine⟨⟨h1,c0⟩,⟨0,⟨rfl,rfl,rfl,rfl,rfl⟩,Nat.zero_le _⟩,λk hk=>⟨λhc=>?_,λhc=>?_⟩⟩
 ·have hlt:k<x.a.c.ms.length:=by
   cases hd:decide ((k:Int)<x.a.c.ms.length) with
   |false=>rw[hd] at hc;cases hc
   |true=>have:=of_decide_eq_true hd;omega
  have hs:(iO x k).2=false:=by
   rw[decide_eq_true (show (k:Int)<x.a.c.ms.length by omega)] at hc
   cases hq:(iO x k).2 with
   |false=>rfl
   |true=>rw[hq] at hc;cases hc
  refine⟨by omega,λh=>?_,λh=>?_⟩
  ·have e:iO x (k+1)=(Na (iO x k).1 (gD (ZJ x.a) k),decide ((gD (Jp x.a.c) k).lo>=x.t)):=by
    show (bif (iO x k).2 then _ else bif decide _ then _ else _)=_
    rw[hs,decide_eq_true h];rfl
   refine⟨by omega,by omega,k+1,⟨?_,(II (by omega)).symm,?_,?_,?_⟩,by omega,by omega⟩<;>rw[e]<;>rfl
  ·have e:iO x (k+1)=iO x k:=by
    show (bif (iO x k).2 then _ else bif decide _ then _ else _)=_
    rw[hs,decide_eq_false h];rfl
   refine⟨k+1,⟨?_,(II (by omega)).symm,?_,?_,?_⟩,by omega,by omega⟩<;>rw[e]
 ·have e:iO x x.a.c.ms.length=iO x k:=by
   cases hq:(iO x k).2 with
   |true=>
    obtain⟨d,hd⟩:∃d,x.a.c.ms.length=k+d:=⟨x.a.c.ms.length-k,by omega⟩
    rw[hd];exact BVE hq d
   |false=>
    rw[hq] at hc
    cases hd:decide ((k:Int)<x.a.c.ms.length) with
    |true=>rw[hd] at hc;cases hc
    |false=>
     have:=of_decide_eq_false hd
     rw[show k=x.a.c.ms.length by omega]
  unfold fsV;rw[e];exact⟨rfl,rfl,rfl,rfl⟩
theorem BME:AW Try.prog AXH (C_First.spec dCZI):=okT C_First (λ(x:CZI) h=>by
 have h1:x.a.c.ms.length<4611686018427387904/\x.a.c.ns.length<4611686018427387904/\x.a.z.length<4611686018427387904:=h
 by_cases c0:DJ x.a=0
 ·have e:C_First.val x=.tup [.d (MV (fsV x).s),.bool (fsV x).b,.int (fsV x).e]:=by
   show AVal.tup [.d (MV (Px x).s),.bool (Px x).b,.int (Px x).e]=_
   unfold Px;rw[c0];rfl
  rw[e]
  exact Wk (A:=BUS x) (L:=[]) (keep:=[]) (ren:=[]) (fz:=[]) BLJ (by kernel_rfl) (AA BAR (AA BIA (AA BPH AK))) (CLS x h1 c0)
 ·have c0':(DJ x.a==0)=false:=by simpa using c0
  have e:C_First.val x=.tup [.d (MV zSp),.bool false,.int (DJ x.a)]:=by
   show AVal.tup [.d (MV (Px x).s),.bool (Px x).b,.int (Px x).e]=_
   unfold Px;rw[c0'];rfl
  rw[e]
  refine Wk (A:=BKT) (L:=[]) (keep:=[]) (ren:=[]) (fz:=[]) BLJ (by kernel_rfl) (AA AZP AK) ?_
  show BMN x;rw[BVW]<;> delta MD Iv BH BK DY EM EO CH AB CJ CE AY MY FV EB FX EC GY GX GR GG DV FO FU FP FS El QR VS FN TW Rn XT Ek JV AH CK IW AX JE AI WE BC AV AF IK IN GJ AQ WV JB BB AC Kv BZ CN BF MC AE Ei AO BD DD LZ AZ GV DC BR BE BS BJ AR BQ Au IS BV HF CI GQ Qh AS BM ER EV CF IE CU GW Cy HO CX DU tP HY IC DR HH FW AT IZ Qp VV JA OS EZ BP NZ BO AL AN AM LJ KO NX NV Cr IL Al VB XE UC NQ YC XR MG Dj MO YY ZQ SY Ad Aj WA WL Ba Dl Hy YJ Nk Ny Nr Nb Jx Oa Mz Nu Mp Sj Ic YZ E2;simp only[CC,eq_self,implies_true,forall_const,FR,Ee]
  exact⟨⟨h1,c0⟩,λh=>by simp[c0] at h⟩) _
end Go.Bal
