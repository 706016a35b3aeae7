/- Law TopYear: its walk. -/
import Derived.Test.YtlblbbidigejkaaGreatChWT
import Derived.Test.YtlblbbidigejkaaGreatRows
import Derived.WalkKit
import Derived.ProofKit
import Derived.OpenShut
import Derived.ShutString
import Derived.ChangeOld
import Derived.Below
import Derived.ChangeArms
set_option linter.unusedVariables false
set_option linter.unusedSimpArgs false
set_option maxRecDepth 8000
namespace Go.Bal
open Go Go.Sym Go.Proofs
structure YeI where
 n:List Int
 g:List Int
 c:List Int
def yM(x:YeI):MkIQ:=⟨⟨x.n,0,0⟩,10,true⟩
def yN(x:YeI):MkI:=⟨⟨x.g,0,0⟩,9⟩
def yC(x:YeI):Cht:=TC (yM x)
def yT(x:YeI):Tru:=eD (yM x)
def yG(x:YeI):List Gau:=mdG (yN x)
def yR(x:YeI):Rtg:=mdR (yN x)
def yY(x:YeI):Ln:=gD (yR x).l 0
def yW(x:YeI):Rtg:=⟨[],[yY x]⟩
def Tc(x:YeI):List Int:=cS ⟨yG x,yW x⟩
def yK(x:YeI)(n:Nat):List Gau:=((yG x).take n).filter (KU (yY x))
def yO(x:YeI):List Gau:=yK x (yG x).length
def FQ(x:YeI):Nat:=(yT x).t.length
def yFit(x:YeI)(k j:Nat):Bool:=((Tc x).take j).all λb=>b != (k:Int)
def yV(x:YeI)(i:Nat):Span×Int:=VJ ⟨⟨yC x,(yT x).z⟩,gD (yT x).t i⟩
def yLo(x:YeI)(i:Nat):Int:=IF 2000 (wr ((EU 0 (yV x i).1.lo).tdiv 10))
def yHi(x:YeI)(i:Nat):Int:=IF 2000 (wr ((wr (EU 0 (yV x i).1.hi+9)).tdiv 10))
def yRe(x:YeI)(i:Nat):Int:=IF 2000 (wr ((EU 0 (gD (yT x).s i)).tdiv 10))
def yA(x:YeI)(i:Nat):Bnd:=UP ⟨yO x,[],yLo x i⟩
def yB(x:YeI)(i:Nat):Bnd:=UP ⟨yO x,[],yHi x i⟩
def yQ(x:YeI)(i:Nat):Rt:=atM ⟨yW x,yRe x i⟩
def yF(x:YeI)(i:Nat):Int:=wr ((yQ x i).n.tdiv (yQ x i).d)
def yRi(x:YeI):Nat->Int
 |0=>0
 |1=>0
 |k+2=>EU (yRi x (k+1)) (wr (yF x (k+1)-yF x k))
def yFa(x:YeI):Nat->Int
 |0=>0
 |1=>0
 |k+2=>EU (yFa x (k+1)) (wr (yF x k-yF x (k+1)))
def yDv(x:YeI)(i:Nat):Vl:=⟨true,wr ((yA x i).lo.n.tdiv (yA x i).lo.d),wr ((wr (wr ((yB x i).hi.n+(yB x i).hi.d)-1)).tdiv (yB x i).hi.d)⟩
def Xs(x:YeI):List Int:=HQ (FQ x) (yF x)
def yDs(x:YeI):List Vl:=HQ (FQ x) (yDv x)
def RE(x:YeI):Rec:=⟨⟨yRi x (FQ x),yFa x (FQ x)⟩,yDs x⟩
def yD(x:YeI):List Span:=Y4 (RE x)
def yVo(x:YeI):Span:=voV ⟨RE x,0,wr ((FQ x:Int)-1)⟩
def yCm(x:YeI):Cmp:=mcV ⟨x.c,0,0⟩
def I1(x:YeI):List Int:=svV ⟨yCm x,SC (Xs x)⟩
def yShr(x:YeI):List Span:=shV ⟨yCm x,yVo x⟩
def yH(x:YeI):List (Nat×HCell):=[(2096,.live (chB (yC x))),(2112,.live (.box [.d (BM (yT x).t),.d (BM (yT x).s),.d (BM (yT x).z)])),(3096,rtgC (yW x))]
def y9(x:YeI):Shape:={ α:=One,dflt:=default,T:=λ_=>⟨[(2,.d (eBys x.c)),(7,.bptr 2096 0),(8,.bptr 2112 0),(9,.d (TB (yG x))),(10,.bptr 3096 0),(11,.d (BM (Tc x)))],yH x⟩,inv:=λ_=>True,meas:=λ_=>0 }
def yS(x:YeI)(v:AVal)(k:Nat):List (Nat×AVal):=[(2,.d (eBys x.c)),(7,.bptr 2096 0),(8,.bptr 2112 0),(10,.bptr 3096 0),(11,.d (BM (Tc x))),(13,v),(72,.d (TB (yG x))),(73,.int (yG x).length),(74,.int k)]
def y11n(x:YeI):Shape:={ α:=Nat,dflt:=0,T:=λk=>⟨yS x (.d JX) k,yH x⟩,inv:=λk=>k<=(yG x).length/\yK x k=[],meas:=λk=>(yG x).length-k,tag:=[1] }
def y11o(x:YeI):Shape:={ α:=GsK,dflt:=default,T:=λy=>⟨yS x (.own 303 3 0 y.l.length) y.i,yH x ++ [(303,.live (rowG y.l))]⟩,inv:=λy=>y.i<=(yG x).length/\y.l=yK x y.i,meas:=λy=>(yG x).length-y.i,tag:=[0] }
structure YeJ where
 k:Nat
 j:Nat
 l:List Gau
 deriving Inhabited
def yGb(g:Gau):AObj:=.box [.int g.st,.int g.lo,.int g.hi]
def yZ(x:YeI)(y:YeJ):List (Nat×AVal):=[(14,.int y.k),(15,.bptr 13048 0),(16,.bool (yFit x y.k y.j)),(79,.d (BM (Tc x))),(80,.int (Tc x).length),(81,.int y.j)]
def y15n(x:YeI)(m:Nat):Shape:={ α:=YeJ,dflt:=default,T:=λy=>⟨yS x (.d JX) y.k ++ yZ x y,yH x ++ [(13048,.live (yGb (gD (yG x) y.k)))]⟩,inv:=λy=>y.k<(yG x).length/\(yG x).length-y.k=m/\yK x y.k=[]/\y.j<=(Tc x).length,meas:=λy=>(Tc x).length-y.j }
def y15o(x:YeI)(m:Nat):Shape:={ α:=YeJ,dflt:=default,T:=λy=>⟨yS x (.own 303 3 0 y.l.length) y.k ++ yZ x y,yH x ++ [(13048,.live (yGb (gD (yG x) y.k))),(303,.live (rowG y.l))]⟩,inv:=λy=>y.k<(yG x).length/\(yG x).length-y.k=m/\y.l=yK x y.k/\y.j<=(Tc x).length,meas:=λy=>(Tc x).length-y.j }
def y21n(x:YeI)(m:Nat):Shape:={ α:=Nat,dflt:=0,T:=λk=>⟨yS x (.d JX) k,yH x⟩,inv:=λk=>k<(yG x).length/\(yG x).length-k=m/\yK x (k+1)=[],meas:=λ_=>0 }
def y21o(x:YeI)(m:Nat)(f:List (Nat×Nat)):Shape:={ α:=GsK,dflt:=default,T:=λy=>⟨yS x (.own 303 3 0 y.l.length) y.i,yH x ++ [(303,.live (rowG y.l))]⟩,inv:=λy=>y.i<(yG x).length/\(yG x).length-y.i=m/\y.l=yK x (y.i+1),meas:=λ_=>0,first:=f }
def y22(x:YeI):Shape:={ α:=One,dflt:=default,T:=λ_=>⟨[(2,.d (eBys x.c)),(7,.bptr 2096 0),(8,.bptr 2112 0),(10,.bptr 3096 0),(13,.d (TB (yO x)))],yH x⟩,inv:=λ_=>True,meas:=λ_=>0,ffz:=[303] }
def yL(x:YeI)(v:AVal)(k:Nat):List (Nat×AVal):=[(2,.d (eBys x.c)),(7,.bptr 2096 0),(8,.bptr 2112 0),(10,.bptr 3096 0),(13,.d (TB (yO x))),(19,.bptr 25000 0),(20,v),(103,.d (BM (yT x).t)),(104,.int (FQ x)),(105,.int k)]
def yX(x:YeI)(r:Nat)(k:Nat)(v:AVal):List (Nat×HCell):=yH x ++ [(25000,.live (.box [.int (yRi x r),.int (yFa x r),v]))]
def yP(x:YeI)(k:Nat):List (Nat×HCell):=[(304,.live (.row 1 k λi=>CF (yF x i))),(305,.live (.row 3 k λi=>eVl (yDv x i)))]
def yBb(b:Bnd):AObj:=.box [.int b.lo.n,.int b.lo.d,.int b.hi.n,.int b.hi.d]
def yRb(q:Rt):AObj:=.box [.int q.n,.int q.d]
def yU:List (Nat×AVal):=[(25,.bptr 31160 0),(27,.bptr 32176 0)]
def yUh(x:YeI)(k:Nat):List (Nat×HCell):=[(31160,.live (yBb (yA x k))),(32176,.live (yBb (yB x k)))]
def yI(x:YeI)(k m:Nat):Prop:=1<=k/\k<FQ x/\FQ x-k=m
def y27n(x:YeI):Shape:={ α:=One,dflt:=default,T:=λ_=>⟨yL x (.d JX) 0,yX x 0 0 (.d JX)⟩,inv:=λ_=>True,meas:=λ_=>FQ x,tag:=[1] }
def y27o(x:YeI):Shape:={ α:=Nat,dflt:=0,T:=λk=>⟨yL x (.own 304 1 0 k) k,yX x k k (.own 305 3 0 k) ++ yP x k⟩,inv:=λk=>1<=k/\k<=FQ x,meas:=λk=>FQ x-k,again:=[(304,40048),(305,41384)],tag:=[0] }
def y35n(x:YeI):Shape:={ α:=One,dflt:=default,T:=λ_=>⟨yL x (.d JX) 0 ++ yU ++ [(29,.bptr 33208 0)],yX x 0 0 (.d JX) ++ yUh x 0 ++ [(33208,.live (yRb (yQ x 0)))]⟩,inv:=λ_=>True,meas:=λ_=>0 }
def y35o(x:YeI)(m:Nat):Shape:={ α:=Nat,dflt:=0,T:=λk=>⟨yL x (.own 304 1 0 k) k ++ yU ++ [(29,.bptr 33208 0)],yX x k k (.own 305 3 0 k) ++ yP x k ++ yUh x k ++ [(33208,.live (yRb (yQ x k)))]⟩,inv:=λk=>yI x k m,meas:=λ_=>0 }
def y39n(x:YeI):Shape:={ α:=One,dflt:=default,T:=λ_=>⟨yL x (.d JX) 0 ++ yU ++ [(31,.int (yF x 0))],yX x 1 0 (.d JX) ++ yUh x 0⟩,inv:=λ_=>True,meas:=λ_=>0 }
def y39o(x:YeI)(m:Nat):Shape:={ α:=Nat,dflt:=0,T:=λk=>⟨yL x (.own 304 1 0 k) k ++ yU ++ [(31,.int (yF x k))],yX x (k+1) k (.own 305 3 0 k) ++ yP x k ++ yUh x k⟩,inv:=λk=>yI x k m,meas:=λ_=>0 }
def y42(x:YeI):Shape:={ α:=One,dflt:=default,T:=λ_=>⟨[(2,.d (eBys x.c)),(19,.bptr 25000 0),(20,.d (BM (Xs x)))],[(25000,.live (.box [.int (RE x).r.rise,.int (RE x).r.fall,.d (eVls (RE x).l)]))]⟩,inv:=λ_=>True,meas:=λ_=>0,ffz:=[304,305] }
def ySb(s:Span):AObj:=.box [.int s.lo,.int s.hi]
def yE(x:YeI):List (Nat×AVal):=[(2,.d (eBys x.c)),(20,.d (BM (Xs x))),(34,.bptr 44128 0)]
def yEh(x:YeI):List (Nat×HCell):=[(44128,.live (ySb (yVo x)))]
def y46(x:YeI):Shape:={ α:=One,dflt:=default,T:=λ_=>⟨yE x ++ [(33,.d (eSps (yD x)))],yEh x⟩,inv:=λ_=>True,meas:=λ_=>0 }
def y47(x:YeI):Shape:={ α:=Nat,dflt:=0,T:=λk=>⟨yE x ++ [(33,.d (eSps (yD x))),(278,.d (BM (Xs x))),(279,.int (FQ x)),(280,.int k)],yEh x⟩,inv:=λk=>k<=FQ x,meas:=λk=>FQ x-k }
def y52(x:YeI):Shape:={ α:=One,dflt:=default,T:=λ_=>⟨yE x,yEh x⟩,inv:=λ_=>True,meas:=λ_=>0 }
def yQs(x:YeI):List (Nat×AVal):=[(20,.d (BM (Xs x))),(39,.d (BM (I1 x)))]
def y57(x:YeI):Shape:={ α:=One,dflt:=default,T:=λ_=>⟨yQs x ++ [(40,.d (eSps (yShr x)))],[]⟩,inv:=λ_=>True,meas:=λ_=>0 }
def y58(x:YeI):Shape:={ α:=Nat,dflt:=0,T:=λk=>⟨yQs x ++ [(40,.d (eSps (yShr x))),(329,.d (BM (I1 x))),(330,.int (I1 x).length),(331,.int k)],[]⟩,inv:=λk=>k<=(I1 x).length,meas:=λk=>(I1 x).length-k }
def y63(x:YeI):Shape:={ α:=One,dflt:=default,T:=λ_=>⟨yQs x,[]⟩,inv:=λ_=>True,meas:=λ_=>0 }
def xYe(x:YeI):List AVal:=[.d (eBys x.n),.d (eBys x.g),.d (eBys x.c)]
def A_Ye(x:YeI):Ann:={ ann 352 [(5,C_New.spec CSM),(4,(sR true).spec (CQX true)),(6,C_Made.spec dMkI),(7,C_Passes.spec dGR),(8,C_aw9.spec AGZ),(9,C_Stage.spec dCZI),(10,C_Flow.spec dGBt),(11,C_At.spec dRtI),(12,C_dFill.spec C7),(13,C_dVol.spec CTE),(15,C_lSum.spec d_Is),(14,CII),(16,C_l9M.spec d_Mc),(17,C_sReal.spec BIR),(18,C_sShr.spec CTR)] with mt:=λid=>id==20||(id==39||id==40),loops:=λid=>if id=11 then some [y11n x,y11o x] else if id=27 then some [y27n x,y27o x] else if id=47 then some [y47 x] else if id=58 then some [y58 x] else none,inner:=λgs id=>if id=15 then (match Nat.beq (gs.getD 1 0) 1 with | true=>some [y15n x (gs.getD 0 0)] | false=>some [y15o x (gs.getD 0 0)]) else none,cut:=λid=>if id=9 then some [y9 x] else if id=22 then some [y22 x] else if id=42 then some [y42 x] else if id=46 then some [y46 x] else if id=52 then some [y52 x] else if id=57 then some [y57 x] else if id=63 then some [y63 x] else none,cutIn:=λgs id=>if id=21 then (match Nat.beq (gs.getD 1 0) 1 with | true=>some [y21n x (gs.getD 0 0),y21o x (gs.getD 0 0) [(303,21048)]] | false=>some [y21o x (gs.getD 0 0) [(303,21048)],y21o x (gs.getD 0 0) []]) else if id=35 then (match Nat.beq (gs.getD 1 0) 1 with | true=>some [y35n x] | false=>some [y35o x (gs.getD 0 0)]) else if id=39 then (match Nat.beq (gs.getD 1 0) 1 with | true=>some [y39n x] | false=>some [y39o x (gs.getD 0 0)]) else none }
def V_Ye(x:YeI):Prop:=AS ZP (A_Ye x) Tryz.f3 (AG Tryz.f3) (xYe x) (AC []) (.bool true) [] [] []
abbrev V2:=YeI.g
abbrev F9:=YeI.c
abbrev Xj:=Tc
abbrev BHW:=@Exists YeJ
abbrev NE:=YeJ.k
abbrev Ad:=YeJ.j
abbrev BYN:=λ(f:YeJ->Prop)=>∀(x:YeJ),f x
abbrev YA:=YeJ.l
abbrev WF:=FQ
abbrev NO:=RE
abbrev Fw:=I1
abbrev U2:=yShr
abbrev nV a:=ATB (Xs a)
abbrev pG a:=IU (Xs a)
abbrev jI a:=MO (Xs a)
abbrev nI:=Hd Fa
abbrev Ze a:=LI (LI a)
abbrev JE a:=mcV (ARC (Ze (F9 a)) 0 0)
abbrev YQ a:=Mw (JE a)
abbrev M3 a:=GN (yVo a)
abbrev I8 a:=IP (yVo a)
abbrev JN a:=IU (F9 a)
abbrev JU a:=MO (F9 a)
abbrev BPC a b c d e f g h:=AP a b c d a e f g h
abbrev qF a:=BY (WF a)
abbrev AZU a:=LW (Xs a)
abbrev M4 a:=Mo (AZU a)
abbrev Wn a:=AGJ (NO a)
abbrev zQ a b:=C8 (yDv a b)
abbrev O0 a b:=G6 (yDv a b)
abbrev Lg a b:=XF (yB a b)
abbrev Vg a b:=WX (yA a b)
abbrev eM a b:=Cd (yA a b)
abbrev Kh a:=wI (yW a)
abbrev Hg a:=ADY (Kh a)
abbrev Cb a:=AAW (Kh a)
abbrev UD a:=N3 (yW a)
abbrev jH a b:=UV a (UD b)
abbrev Wi a:=Tru.z (yT a)
abbrev RZ a:=IU (Wi a)
abbrev RO a:=MO (Wi a)
abbrev YP a:=Tru.s (yT a)
abbrev Hi a:=IU (YP a)
abbrev UF a:=MO (YP a)
abbrev XO a:=Tru.t (yT a)
abbrev PI a:=IU (XO a)
abbrev PH a:=MO (XO a)
abbrev AIR a b:=LG (yC a) b
abbrev QG a b:=BBU a (yC b) (AIR b a)
abbrev Zd a:=FU (yC a)
abbrev sH a:=Cs (yC a)
abbrev mV a:=hd55 (sH a)
abbrev SO a:=fM (mV a) (sH a)
abbrev RU a:=BI (mV a)
abbrev RD a:=FC (yC a)
abbrev QV a:=EN (yC a)
abbrev OH a:=GE (yC a)
abbrev QS a:=NL (yC a)
abbrev SI a:=KC (yC a)
abbrev xX a:=Gy (yO a)
abbrev pC a:=Hp (yO a)
abbrev D8 a b:=WX (yB a b)
abbrev D9 a b:=Cd (yB a b)
abbrev L9 a b:=XF (yA a b)
abbrev kF a b:=VG (yQ a b)
abbrev H3 a b:=RH (yQ a b)
abbrev AIY a:=Mt (Kh a)
abbrev uR a b c:=AJE (UD a) (AIY b) c
abbrev bV a b:=hd51 2000 (TP (xD (ID (YP a) b)) 10)
abbrev ACT:=wH 0 (λi=>(@default Int Int.instInhabited))
abbrev Ma a:=NA (yO a)
abbrev AKB a b:=GBt.mk (Ma a) ACT b
abbrev BLA a b:=cY (AKB a b)
abbrev zF a:=LI (Wi a)
abbrev BDC a b c d:=VJ (CZI.mk (CZ.mk a (zF b)) (ID (XO c) d))
abbrev kK a:=AZJ (yC a) (λi=>dNt (eNt (AIR a i)))
abbrev AOI a:=BZI (sH a) (λi=>dMk (eMk (hd64 (sH a) i)))
abbrev BCE a b c:=rX (yC a) (AOI b) (kK c)
abbrev BMV a b:=CFS (BDC (BCE a a a) a a b)
abbrev AIA a b:=hd51 2000 (TP (CP (xD (GN (BMV a b))) 9) 10)
abbrev Zx a b c:=BLA a (AIA b c)
abbrev AKD a b:=hd51 2000 (TP (xD (IP (BMV a b))) 10)
abbrev cE a b c:=BLA a (AKD b c)
abbrev sV a b:=kN a (Kh b)
abbrev J5 a:=KF (Kh a)
abbrev Ku a:=IU (UD a)
abbrev Lz a:=MO (UD a)
abbrev zT a b:=UV a (XO b)
abbrev Mv a:=UE (yC a)
abbrev AAT:=Ha 10
abbrev AHU a b c d:=CB a a b c d
abbrev ACS a:=hd55 (AOI a)
abbrev qM a b c:=iL a (yK b c)
abbrev VO a:=DW (yG a)
abbrev Rs a:=BY (VO a)
abbrev kO a b:=BEG (VO a) (yG b)
abbrev Re a:=BI (VO a)
abbrev Bn a:=IU (Xj a)
abbrev Ci a:=MO (Xj a)
abbrev Lx a b c:=UI (VO a) b c
abbrev Ks a b:=OB a (VO b)
abbrev BCI a b:=JP (yG a) b
abbrev O4 a b:=BCI a (NE b)
abbrev AQN a b:=IV (yG a) b
abbrev nC a b:=AQN a (NE b)
abbrev AQI a b:=IH (yG a) b
abbrev pI a b:=AQI a (NE b)
abbrev nF a b c:=yFit a (NE b) (Ad c)
abbrev sM a:=BQ (Xj a)
abbrev tC a b:=Qw (yK a b)
abbrev En a:=bE (MkI.mk (ARC (Ze (V2 a)) 0 0) 9)
abbrev AOE a:=Ze (YeI.n a)
abbrev L7 a:=MkIQ.mk (StmQ.mk (AOE a) 0 0) 10 Fa
abbrev Yf a:=TC (L7 a)
abbrev G7 a:=mdG (MkI.mk (ARC (Ze (V2 a)) 0 0) 9)
abbrev X8 a:=NA (G7 a)
attribute [go_sem] V2 F9 Xj BHW NE Ad BYN YA WF NO Fw U2 nV pG jI nI Ze JE YQ M3 I8 JN JU BPC qF AZU M4 Wn zQ O0 Lg Vg eM Kh Hg Cb UD jH Wi RZ RO YP Hi UF XO PI PH AIR QG Zd sH mV SO RU RD QV OH QS SI xX pC D8 D9 L9 kF H3 AIY uR bV ACT Ma AKB BLA zF BDC kK AOI BCE BMV AIA Zx AKD cE sV J5 Ku Lz zT Mv AAT AHU ACS qM VO Rs kO Re Bn Ci Lx Ks BCI O4 AQN nC AQI pI nF sM tC En AOE L7 Yf G7 X8
theorem DCV(x:YeI):(V_Ye x)=(CV (JZ (YeI.n x)) (Ec (JO (YeI.n x)) (DJ 10 10) CY (BH (AOE x) (LI (YeI.n x))) (BO (AOE x) (LI (YeI.n x))) Y3 (AQ (lE 0 (StmQ.mk (AOE x) 0 0)) (Bo 10) (KM 10 14)) CY) (Ec (JZ (V2 x)) (JO (V2 x)) (DJ 9 9) (BH (Ze (V2 x)) (LI (V2 x))) (BO (Ze (V2 x)) (LI (V2 x))) Y3 (AQ (StmB 0 (ARC (Ze (V2 x)) 0 0)) (Bo 9) (KM 9 100)) EB) (YL (xY (KF (En x))) nI (AO (WU YV 1 (Bo (AZ (KF (En x))))) (Iu (HT (X8 x) (G7 x)) (JC (X8 x) (G7 x)) (TI ACT) (RY (qH (Bu 1) (En x) AJ) 1) (AE (λi=>uB i (KF (qH 1 (En x) AJ)) (qH (Bu 1) (En x) AJ) (NB (En x) (AJ i)) (MY (En x) (AJ i)) (En x) (AJ i))) (WJ (DW (X8 x))) (WJ (BQ ACT)) (WJ (KF (qH 1 (En x) AJ)))) (nJ (Ts (GR.mk (X8 x) (Rtg.mk ACT (qH (Bu 1) (En x) AJ)))) nI (TV (DY (JU x) (JN x) (HT (yG x) (G7 x)) (λi=>BJR i (VO x) (AQI x i) (IH (G7 x) i) (AQN x i) (IV (G7 x) i) (yG x) i (JP (G7 x) i)) (BH (Xj x) (cS (GR.mk (X8 x) (Rtg.mk ACT (qH (Bu 1) (En x) AJ))))) (BO (Xj x) (cS (GR.mk (X8 x) (Rtg.mk ACT (qH (Bu 1) (En x) AJ))))) (AN (GA (yC x)) (GA (Yf x))) (AN (IS (yC x)) (IS (Yf x))) (BU (pE (yC x) (Yf x)) (rB (yC x) (Yf x)) (AN (Sk (yC x)) (Sk (Yf x))) (BB (mV x) (CO (Yf x))) (ZL (mV x) (sH x) (Yf x)) (AOO (Zd x) (Yf x)) (λi=>bA i (yC x) (RJ (Yf x) i) (AIR x i) (LG (Yf x) i)) (BH (XO x) (W9 (L7 x))) (Ec (BO (XO x) (W9 (L7 x))) (BH (YP x) (ACF (L7 x))) (BO (YP x) (ACF (L7 x))) (BH (Wi x) (X2 (L7 x))) (BO (Wi x) (X2 (L7 x))) (TI (UD x)) (RY (Kh x) 1) (AE (λi=>uB i (J5 x) (Kh x) (NB (En x) (AJ i)) (MY (En x) (AJ i)) (En x) (AJ i)))))))) (Pb EB (AQ (EA (λi=>DK (CB (JU x) (JN x) (Ci x) (Bn x) (DY AB AK (Re x) (λj=>Yk j (VO x) (yG x)) (Rs x) (BC i) (SI x) (QS x) (BV (OH x) (QV x) (RD x) (RU x) (SO x) (Zd x) (λj=>QG j x) (PH x) (NG (PI x) (UF x) (Hi x) (RO x) (RZ x) (UD x) (λj=>jH j x) (Cb x) (Hg x))))) i (VO x) (tC x i))) (AE (λi=>OU (VU i (VO x) (tC x i)) i (VO x) (AQ (Fl i (VO x) (BHW (λj=>Ep (BW (JU x) (JN x) (Ci x) (Bn x) AB (ALG AK (Re x) (kO x x) (Rs x) (AT (NE j) i) (GT (nF x j j)) (Ci x) (AP (Bn x) (gX (Xj x)) (BC (Ad j)) (SI x) (QS x) (OH x) (QV x) (RD x) (DY (RU x) (SO x) (Mv x) (λk=>QG k x) (PH x) (PI x) (UF x) (Hi x) (AP (RO x) (RZ x) (Lz x) (Ku x) (Cb x) (Hg x) (AN (pI x j) (AQI x i)) (AN (nC x j) (AQN x i)) (AN (O4 x j) (BCI x i))))))) (Ks (NE j) x) (Lx x (NE j) i) (tC x (NE j)) (Ad j) (sM x))) (BYN (λj=>Ck (AO (Ks (NE j) x) (Lx x (NE j) i) (tC x (NE j)) (DC (Ad j) (sM x))) (Ad j) (LW (Xj x)) (MZ (Ad j) (Xj x)) (BHW (λk=>EO (BW (JU x) (JN x) (Ci x) (Bn x) AB (ALG AK (Re x) (kO x x) (Rs x) (AT (NE k) (NE j)) (SQ (nF x k k) (nF x j j) (vA (ID (Xj x) (Ad j)) (AZ (NE j)))) (Ci x) (AP (Bn x) (gX (Xj x)) (AR (Ad k) (Ad j)) (SI x) (QS x) (OH x) (QV x) (RD x) (DY (RU x) (SO x) (Mv x) (λl=>QG l x) (PH x) (PI x) (UF x) (Hi x) (AP (RO x) (RZ x) (Lz x) (Ku x) (Cb x) (Hg x) (AN (pI x k) (pI x j)) (AN (nC x k) (nC x j)) (AN (O4 x k) (O4 x j))))))) (AO (Ks (NE k) x) (Lx x (NE k) i) (tC x (NE k)) (DC (Ad k) (sM x))) (sM x) (Ad k) (Ad j))) (FW (nF x j j) (Wr 3 24) (D7 (λk=>AO (VM (JU x) (JN x) (Ci x) (Bn x) AB (uT k 1) (AP (Re x) (kO x x) (Rs x) (AT (BN k) (NE j)) (SI x) (QS x) (OH x) (QV x) (L4 (RD x) (RU x) (SO x) (Mv x) (λl=>QG l x) (XO x) (λl=>zT l x) (UF x) (Qd (YP x) (RO x) (RZ x) (Lz x) (Ku x) (J5 x) (λl=>sV l x) (uT k 1) (AE (λl=>AIJ l (NW k) (pI x j) (nC x j) (yG x) (NE j))))))) (Ks (BN k) x) (Lx x (BN k) i) (qM k x (Yq k)))) (EA (λk=>AO (CB (JU x) (JN x) (Ci x) (Bn x) (DY AB AK (Re x) (λl=>Yk l (VO x) (yG x)) (Rs x) (AT k (NE j)) (SI x) (QS x) (BV (OH x) (QV x) (RD x) (RU x) (SO x) (Zd x) (λl=>QG l x) (PH x) (NG (PI x) (UF x) (Hi x) (RO x) (RZ x) (UD x) (λl=>jH l x) (Cb x) (Hg x))))) (Ks k x) (Lx x k i) (tC x (HN k)))))))) (AE (λj=>Hk (Ks j x) (Lx x j i) (tC x (HN j)) (EA (λk=>IK (CB (JU x) (JN x) (Ci x) (Bn x) (DY AB AK (Re x) (λl=>Yk l (VO x) (yG x)) (Rs x) (AR k j) (SI x) (QS x) (BV (OH x) (QV x) (RD x) (RU x) (SO x) (Zd x) (λl=>QG l x) (PH x) (NG (PI x) (UF x) (Hi x) (RO x) (RZ x) (UD x) (λl=>jH l x) (Cb x) (Hg x))))) k (VO x) (tC x k) i)))) (ATX (λj=>Hk (Ks (BN j) x) (Lx x (BN j) i) (qM j x (Yq j)) (D7 (λk=>IK (VM (JU x) (JN x) (Ci x) (Bn x) AB (bS k j) (AP (Re x) (kO x x) (Rs x) (AR (BN k) (BN j)) (SI x) (QS x) (OH x) (QV x) (L4 (RD x) (RU x) (SO x) (Mv x) (λl=>QG l x) (XO x) (λl=>zT l x) (UF x) (Qd (YP x) (RO x) (RZ x) (Lz x) (Ku x) (J5 x) (λl=>sV l x) (bS k j) (JC (NW k) (NW j)))))) (BN k) (VO x) (qM k x (BN k)) i))))) (TV (AQ (JU x) (JN x) (AHU (TM (yO x) 0) (SI x) (QS x) (BV (OH x) (QV x) (RD x) (RU x) (SO x) (Zd x) (λj=>QG j x) (PH x) (NG (PI x) (UF x) (Hi x) (RO x) (RZ x) (UD x) (λj=>jH j x) (Cb x) (Hg x)))))))) (ATX (λi=>OU (VU (BN i) (VO x) (qM i x (BN i))) (BN i) (VO x) (WH (Fl (BN i) (VO x) (BHW (λj=>Ep (Fj (JU x) (JN x) (Ci x) (Bn x) AB (AJJ (YA j) i) (Re x) (Iu (kO x x) (Rs x) (AT (NE j) (BN i)) (GT (nF x j j)) (Ci x) (Bn x) (gX (Xj x)) (AP (BC (Ad j)) (SI x) (QS x) (OH x) (QV x) (RD x) (RU x) (SO x) (XH (Mv x) (λk=>QG k x) (PH x) (PI x) (UF x) (Hi x) (RO x) (RZ x) (DY (Lz x) (Ku x) (Cb x) (λk=>sV k x) (AN (pI x j) (AQI x (BN i))) (AN (nC x j) (AQN x (BN i))) (AN (O4 x j) (BCI x (BN i))) (AJJ (YA j) i) (JC (YA j) (NW i))))))) (Ks (NE j) x) (Lx x (NE j) (BN i)) (AVI (YA j) (yK x (NE j))) (Ad j) (sM x))) (BYN (λj=>Ck (AO (Ks (NE j) x) (Lx x (NE j) (BN i)) (AVI (YA j) (yK x (NE j))) (DC (Ad j) (sM x))) (Ad j) (LW (Xj x)) (MZ (Ad j) (Xj x)) (BHW (λk=>EO (Fj (JU x) (JN x) (Ci x) (Bn x) AB (HT (YA k) (YA j)) (Re x) (Iu (kO x x) (Rs x) (AT (NE k) (NE j)) (SQ (nF x k k) (nF x j j) (vA (ID (Xj x) (Ad j)) (AZ (NE j)))) (Ci x) (Bn x) (gX (Xj x)) (AP (AR (Ad k) (Ad j)) (SI x) (QS x) (OH x) (QV x) (RD x) (RU x) (SO x) (XH (Mv x) (λl=>QG l x) (PH x) (PI x) (UF x) (Hi x) (RO x) (RZ x) (DY (Lz x) (Ku x) (Cb x) (λl=>sV l x) (AN (pI x k) (pI x j)) (AN (nC x k) (nC x j)) (AN (O4 x k) (O4 x j)) (HT (YA k) (YA j)) (JC (YA k) (YA j))))))) (AO (Ks (NE k) x) (Lx x (NE k) (BN i)) (AVI (YA k) (yK x (NE k))) (DC (Ad k) (sM x))) (sM x) (Ad k) (Ad j))) (FW (nF x j j) (AAN (DW (YA j)) 3 24) (D7 (λk=>AO (VM (JU x) (JN x) (Ci x) (Bn x) AB (uT k (uL (YA j))) (AP (Re x) (kO x x) (Rs x) (AT (BN k) (NE j)) (SI x) (QS x) (OH x) (QV x) (L4 (RD x) (RU x) (SO x) (Mv x) (λl=>QG l x) (XO x) (λl=>zT l x) (UF x) (Qd (YP x) (RO x) (RZ x) (Lz x) (Ku x) (J5 x) (λl=>sV l x) (uT k (uL (YA j))) (AE (λl=>sE l (NW k) (BF l (DW (YA j)) (IH (YA j) l) (pI x j)) (BF l (DW (YA j)) (IV (YA j) l) (nC x j)) (BF l (DW (YA j)) (JP (YA j) l) (O4 x j)))))))) (Ks (BN k) x) (Lx x (BN k) (BN i)) (qM k x (Yq k)))) (D7 (λk=>AO (VM (JU x) (JN x) (Ci x) (Bn x) AB (HT (NW k) (YA j)) (AP (Re x) (kO x x) (Rs x) (AT (BN k) (NE j)) (SI x) (QS x) (OH x) (QV x) (L4 (RD x) (RU x) (SO x) (Mv x) (λl=>QG l x) (XO x) (λl=>zT l x) (UF x) (Qd (YP x) (RO x) (RZ x) (Lz x) (Ku x) (J5 x) (λl=>sV l x) (HT (NW k) (YA j)) (JC (NW k) (YA j)))))) (Ks (BN k) x) (Lx x (BN k) (BN i)) (qM k x (Yq k)))))))) (ATX (λj=>Hk (Ks (BN j) x) (Lx x (BN j) (BN i)) (qM j x (Yq j)) (D7 (λk=>IK (VM (JU x) (JN x) (Ci x) (Bn x) AB (bS k j) (AP (Re x) (kO x x) (Rs x) (AR (BN k) (BN j)) (SI x) (QS x) (OH x) (QV x) (L4 (RD x) (RU x) (SO x) (Mv x) (λl=>QG l x) (XO x) (λl=>zT l x) (UF x) (Qd (YP x) (RO x) (RZ x) (Lz x) (Ku x) (J5 x) (λl=>sV l x) (bS k j) (JC (NW k) (NW j)))))) (BN k) (VO x) (qM k x (BN k)) (BN i)))))) (Nq (λj=>Wo (JU x) (JN x) (AJJ (yO x) i) (PO (LU (A0 i)) (AE (λk=>AIJ k (yO x) (IH (NW i) (AJ k)) (IV (NW i) (AJ k)) (NW i) (AJ k))) (GA (yC x)) (QS x) (BV (OH x) (QV x) (RD x) (RU x) (SO x) (Zd x) (λk=>QG k x) (PH x) (NG (PI x) (UF x) (Hi x) (RO x) (RZ x) (UD x) (λk=>jH k x) (Cb x) (Hg x))))))))) (Xh (λi=>Is EB (xY (DW (yO x))) CY (And (Mp (TV (DY (JU x) (JN x) (pC x) (λj=>Yk j (DW (yO x)) (yO x)) AB AK (PH x) (PI x) (AP (AT (WF x) (BQ (XO x))) AU (SI x) (QS x) (OH x) (QV x) (RD x) (RU x) (NG (SO x) (Mv x) (AE (λj=>QG j x)) (PH x) (PI x) (YP x) (λj=>UV j (YP x)) (RO x) (AP (RZ x) (Lz x) (Ku x) (Cb x) (Hg x) (BZ (yRi x 0)) (BZ (yFa x 0)) AB AK))))) (Xh (λj=>OU EB 0 (WF x) (VM (MZ 0 (XO x)) (KD (GA (yC x)) (IS (yC x)) (DO (OH x) (K4 (yC x)) (Sk (yC x)) (BB (ACS x) (mV x)) (Pm (US (ACS x) (AOI x) (sH x)) (eK (kK x) (yC x)) (λk=>Hx k (kK x) (AQG (lW (kK x) k) (yC x) k (AIR x k))) (BH (zF x) (Wi x)) (BO (zF x) (Wi x)) (ACP (XO x) 0) (JY (ACS x)) (H9 (kK x)) (oJ (zF x))))) (AO AAT (HT (Ma x) (yO x)) (JC (Ma x) (yO x)) (AHU AB (AI (AKD x 0)) (And (WL (Ma x)) AAK) EB)) (AO AAT (HT (Ma x) (yO x)) (JC (Ma x) (yO x)) (AHU AB (AI (AIA x 0)) (And (WL (Ma x)) AAK) EB)) (AP (MZ 0 (YP x)) AAT (JZ (UD x)) (JO (UD x)) (Wp (AIY x) (Kh x)) (cJ (Kh x) (AIY x)) (AI (bV x 0)) (WJ (XN (UD x))) (WJ (Ir (Kh x)))) (Ba (Hc (AIG (AIG (UH (BUX (BDC (BCE x x x) x x 0))) (UH (AKR (AKB x (AKD x 0)))) (UH (AKR (AKB x (AIA x 0))))) (UH (atE (uR x x (bV x 0)))) (cT (WX (cE x x 0)) 1)) (cT (XF (Zx x x 0)) 1)) (cT (K0 (uR x x (bV x 0))) 1) nI (TV (AQ (JU x) (JN x) (AP (pC x) (xX x) AB AK (PH x) (PI x) (qF x) AU (BV (SI x) (QS x) (OH x) (QV x) (RD x) (mV x) (λk=>ATN k (mV x) (sH x)) (Mv x) (NG (AE (λk=>QG k x)) (PH x) (PI x) (UF x) (Hi x) (Wi x) (λk=>UV k (Wi x)) (Lz x) (BU (Ku x) (Cb x) (Hg x) (AI (yRi x 0)) (AI (yFa x 0)) AB (λk=>AIM k 0) (AN (eM x 0) (Cd (cE x x 0))) (AP (AN (Vg x 0) (WX (cE x x 0))) (gC (yA x 0) (cE x x 0)) (AN (L9 x 0) (XF (cE x x 0))) (AN (D9 x 0) (Cd (Zx x x 0))) (AN (D8 x 0) (WX (Zx x x 0))) (gC (yB x 0) (Zx x x 0)) (AN (Lg x 0) (XF (Zx x x 0))) (AN (H3 x 0) (RH (atM (uR x x (bV x 0))))) (AN (kF x 0) (K0 (uR x x (bV x 0)))))))))))) (uF (AQ (tQ (kF x 0)) (Nq (λk=>EM (JU x) (NG (JN x) (pC x) (xX x) AB AK (XO x) (λl=>zT l x) (qF x) (AP AU (AN (yF x 0) (TP (H3 x 0) (kF x 0))) (SI x) (QS x) (OH x) (QV x) (RD x) (RU x) (NG (SO x) (Mv x) (AE (λl=>QG l x)) (PH x) (PI x) (YP x) (λl=>UV l (YP x)) (RO x) (AP (RZ x) (Lz x) (Ku x) (Cb x) (Hg x) (AN (yRi x 1) (yRi x 0)) (AN (yFa x 1) (yFa x 0)) AB (AP AK (AI (eM x 0)) (AI (Vg x 0)) (AI (Kl (yA x 0))) (AI (L9 x 0)) (AI (D9 x 0)) (AI (D8 x 0)) (AI (Kl (yB x 0))) (AI (Lg x 0))))))) EB)) (uF (AQ (pZ rE Ro Lo 8) (AQ (Ha (Vg x 0)) (Ha (Lg x 0)) (Wr 3 24)) (EA (λk=>Kv (CB (JU x) (JN x) (pC x) (xX x) (AP AB (XS k) (PH x) (PI x) (qF x) (AR k 0) (SI x) (QS x) (BV (OH x) (QV x) (RD x) (RU x) (SO x) (Zd x) (λl=>QG l x) (PH x) (NG (PI x) (UF x) (Hi x) (RO x) (RZ x) (UD x) (λl=>jH l x) (Cb x) (ALG (Hg x) (AN (yRi x k) (yRi x 1)) (AN (yFa x k) (yFa x 1)) AB (XS k) (AE (λl=>HB l k (AN (yF x l) (yF x 0)))) (XS k) (AE (λl=>HB l k (Qu CY (O0 x l) (TP (eM x 0) (Vg x 0)) (zQ x l) (TP (Mo (CP (Kl (yB x 0)) (Lg x 0))) (Lg x 0)))))))))) (JH k (WF x)) (WF x) k (WF x)))))))) (Nq (λk=>Wo (JU x) (JN x) (TI (Xs x)) (S5 (TI (Xs x)) (AN (cM (NO x)) (yRi x 0)) (AN (aM (NO x)) (yFa x 0)) (ASV (NO x) 0)))))) (λj=>OU (JH j (WF x)) j (WF x) (VM (MZ j (XO x)) (KD (GA (yC x)) (IS (yC x)) (DO (OH x) (K4 (yC x)) (Sk (yC x)) (BB (ACS x) (mV x)) (Pm (US (ACS x) (AOI x) (sH x)) (eK (kK x) (yC x)) (λk=>Hx k (kK x) (AQG (lW (kK x) k) (yC x) k (AIR x k))) (BH (zF x) (Wi x)) (BO (zF x) (Wi x)) (ACP (XO x) j) (JY (ACS x)) (H9 (kK x)) (oJ (zF x))))) (AO AAT (HT (Ma x) (yO x)) (JC (Ma x) (yO x)) (AHU AB (AI (AKD x j)) (And (WL (Ma x)) AAK) EB)) (AO AAT (HT (Ma x) (yO x)) (JC (Ma x) (yO x)) (AHU AB (AI (AIA x j)) (And (WL (Ma x)) AAK) EB)) (AP (MZ j (YP x)) AAT (JZ (UD x)) (JO (UD x)) (Wp (AIY x) (Kh x)) (cJ (Kh x) (AIY x)) (AI (bV x j)) (WJ (XN (UD x))) (WJ (Ir (Kh x)))) (Ba (Hc (AIG (AIG (UH (BUX (BDC (BCE x x x) x x j))) (UH (AKR (AKB x (AKD x j)))) (UH (AKR (AKB x (AIA x j))))) (UH (atE (uR x x (bV x j)))) (cT (WX (cE x x j)) 1)) (cT (XF (Zx x x j)) 1)) (cT (K0 (uR x x (bV x j))) 1) nI (EA (λk=>AO (VM (JU x) (JN x) (pC x) (xX x) AB (BB k j) (AP (PH x) (PI x) (qF x) (AT k j) (SI x) (QS x) (OH x) (QV x) (L4 (RD x) (RU x) (SO x) (Mv x) (λl=>QG l x) (XO x) (λl=>zT l x) (UF x) (Qd (YP x) (RO x) (RZ x) (Lz x) (Ku x) (J5 x) (λl=>sV l x) (AN (yRi x k) (yRi x j)) (Iu (AN (yFa x k) (yFa x j)) AB (BB k j) (AE (λl=>HB l k (AI (yF x l)))) (BB k j) (AE (λl=>HB l k (kG CY (O0 x l) (zQ x l)))) (AN (eM x k) (Cd (cE x x j))) (AP (AN (Vg x k) (WX (cE x x j))) (gC (yA x k) (cE x x j)) (AN (L9 x k) (XF (cE x x j))) (AN (D9 x k) (Cd (Zx x x j))) (AN (D8 x k) (WX (Zx x x j))) (gC (yB x k) (Zx x x j)) (AN (Lg x k) (XF (Zx x x j))) (AN (H3 x k) (RH (atM (uR x x (bV x j))))) (AN (kF x k) (K0 (uR x x (bV x j)))))))))) (LS k) (OB k (WF x)) (UI (WF x) k j)))) (AE (λk=>Hk (LS k) (OB k (WF x)) (UI (WF x) k j) (Mp (tQ (kF x k)) (FW (Lc k) (AHS (FV (Oo k) k) (OB (MQ (Oo k)) k) (FI (MQ (Oo k)) k)) (EA (λl=>AO (BW (JU x) (JN x) (pC x) (xX x) AB (AP (BB l k) (PH x) (PI x) (qF x) (AT l k) (AN (yF x l) (TP (H3 x k) (kF x k))) (SI x) (QS x) (BV (OH x) (QV x) (RD x) (RU x) (SO x) (Zd x) (λm=>QG m x) (PH x) (NG (PI x) (UF x) (Hi x) (RO x) (RZ x) (UD x) (λm=>jH m x) (Cb x) (ALG (Hg x) (AN (yRi x (HN l)) (hd50 (yRi x k) (CW (TP (H3 x k) (kF x k)) (yF x (MQ (Oo k)))))) (AN (yFa x (HN l)) (hd50 (yFa x k) (CW (yF x (MQ (Oo k))) (TP (H3 x k) (kF x k))))) AB (BB l k) (AE (λm=>HB m l (AI (yF x m)))) (BB l k) (SE (λm=>HB m l (kG CY (O0 x m) (zQ x m))) (AN (eM x l) (eM x k)) (AN (Vg x l) (Vg x k)) (gC (yA x l) (yA x k)) (AN (L9 x l) (L9 x k)) (AN (D9 x l) (D9 x k)) (AN (D8 x l) (D8 x k)) (gC (yB x l) (yB x k)) (AN (Lg x l) (Lg x k)))))))) (LS l) (OB l (WF x)) (UI (WF x) l j))) (EA (λl=>AO (BW (JU x) (JN x) (pC x) (xX x) AB (AP (BB l k) (PH x) (PI x) (qF x) (AT l k) (AN (yF x l) (TP (H3 x k) (kF x k))) (SI x) (QS x) (BV (OH x) (QV x) (RD x) (RU x) (SO x) (Zd x) (λm=>QG m x) (PH x) (NG (PI x) (UF x) (Hi x) (RO x) (RZ x) (UD x) (λm=>jH m x) (Cb x) (ALG (Hg x) (AN (yRi x (HN l)) (yRi x k)) (AN (yFa x (HN l)) (yFa x k)) AB (BB l k) (AE (λm=>HB m l (AI (yF x m)))) (BB l k) (SE (λm=>HB m l (kG CY (O0 x m) (zQ x m))) (AN (eM x l) (eM x k)) (AN (Vg x l) (Vg x k)) (gC (yA x l) (yA x k)) (AN (L9 x l) (L9 x k)) (AN (D9 x l) (D9 x k)) (AN (D8 x l) (D8 x k)) (gC (yB x l) (yB x k)) (AN (Lg x l) (Lg x k)))))))) (LS l) (OB l (WF x)) (UI (WF x) l j)))) (λl=>Hk (LS l) (OB l (WF x)) (UI (WF x) l j) (AQ (iK (aB l 1) (mM l) (nB l 8)) (AQ (Ha (Vg x l)) (Ha (Lg x l)) (AAN l 3 24)) (EA (λm=>EO (CB (JU x) (JN x) (pC x) (xX x) (AP AB (OK m l) (PH x) (PI x) (qF x) (AR m l) (SI x) (QS x) (BV (OH x) (QV x) (RD x) (RU x) (SO x) (Zd x) (λn=>QG n x) (PH x) (NG (PI x) (UF x) (Hi x) (RO x) (RZ x) (UD x) (λn=>jH n x) (Cb x) (ALG (Hg x) (AN (yRi x m) (yRi x (HN l))) (AN (yFa x m) (yFa x (HN l))) AB (OK m l) (AE (λn=>HB n m (AN (yF x n) (BF n l (yF x n) (yF x l))))) (OK m l) (AE (λn=>Fo n m Fa (hd5 (dT n l) (zL (yDv x n)) Fa) (O0 x n) (BF n l (O0 x n) (TP (eM x l) (Vg x l))) (zQ x n) (BF n l (zQ x n) (TP (Mo (CP (Kl (yB x l)) (Lg x l))) (Lg x l)))))))))) (JH m (WF x)) (WF x) m j)))))))) (Nq (λk=>EM (JU x) (DY (JN x) (Sc (Xs x) j) (LU j) (λl=>VL l (Xs x) l (yF x (AJ l))) (AN (cM (NO x)) (yRi x j)) (AN (aM (NO x)) (yFa x j)) (ASV (NO x) j) (LU j) (AE (λl=>D2 l (NO x) (Qu (GT (QK (NO x) l)) (QO (NO x) l) (O0 x (AJ l)) (RA (NO x) l) (zQ x (AJ l)))))) EB)))) (uF (AO (CB (KQ (NO x)) (KV (NO x)) (fZ (NO x) (NO x)) (AE (λj=>Fo j (OI (NO x)) (Cm (NO x) j) (QK (NO x) j) (Cc (NO x) j) (QO (NO x) j) (Cr (NO x) j) (RA (NO x) j))) (dpT (Wn x))) (And (KQ (NO x)) (Pm (KV (NO x)) (fZ (NO x) (NO x)) (λj=>Fo j (OI (NO x)) (Cm (NO x) j) (QK (NO x) j) (Cc (NO x) j) (QO (NO x) j) (Cr (NO x) j) (RA (NO x) j)) (uU 0) (AI (M4 x)) (dpT (Wn x)) YV (IM (M4 x)) (Uo (M4 x) (OI (NO x))))) (And (RN (not (Hc (AUS (UH 0) Fa) (vA (AZ (PN (Y4 (Wn x)))) (AZU x)))) (AQ (JZ (Xs x)) (JO (Xs x)) (FI (XN (Xs x)) 1073741824))) (Ba (Hc (AUS (UH 0) Fa) (vA (AZ (PN (Y4 (Wn x)))) (AZU x))) (not (NJ (nV x) (IP (voV (VoS.mk (Wn x) 0 (M4 x)))) (GN (voV (VoS.mk (Wn x) 0 (M4 x)))))) nI (Nq (λj=>Wo (JU x) (JN x) (jI x) (JG (pG x) (xM (yD x) (Y4 (Wn x))) (AE (λk=>Hr k (yD x) (FY (Y4 (Wn x)) k) (FT (Y4 (Wn x)) k))) (I8 x) (IP (voV (VoS.mk (Wn x) 0 (M4 x)))) (AN (M3 x) (GN (voV (VoS.mk (Wn x) 0 (M4 x)))))))))) (Pb EB (LR (λj=>Kw (JU x) (JN x) (jI x) (BPC (pG x) (OV (yD x)) (PG (yD x)) (jI x) (AT (WF x) (BQ (Xs x))) (BC j) (AI (I8 x)) (AI (M3 x))) (MH j (WF x))) (λj=>OU (MH j (WF x)) j (WF x) (AQ (MZ j (Xs x)) (CL j (PN (yD x))) (Uj (NJ (ID (Xs x) j) (FY (yD x) j) (FT (yD x) j)) nI (λk=>Bg (AO (JU x) (JN x) (jI x) (BPC (pG x) (OV (yD x)) (PG (yD x)) (jI x) (qF x) (AR k j) (AI (I8 x)) (AI (M3 x)))) k (WF x) k j))) (TV (BW (JU x) (JN x) (jI x) (pG x) (AI (I8 x)) (AI (M3 x)))))) (uF (CB (AQ (JZ (F9 x)) (JO (F9 x)) (ALU (BH (Ze (F9 x)) (LI (F9 x))) (BO (Ze (F9 x)) (LI (F9 x))) Y3 (StmB 0 (ARC (Ze (F9 x)) 0 0)))) (And (JZ (Xs x)) (AP (JO (Xs x)) (WJ (XN (Xs x))) (AI (YQ x)) (oP (JE x)) (AE (λj=>Li j (JE x) (VE (JE x) j) (Dv (JE x) j) (UW (JE x) j) (Ei (JE x) j) (VW (JE x) j) (Dy (JE x) j))) (AI (nV x)) (CV (Bo (YQ x)) (KM (YQ x) 12) (D6 (JE x)) (M1 (JE x) (ZU (YQ x) (JE x)))) (IM (nV x)) (KM (nV x) 1000000000))) (Pm (AI (YQ x)) (oP (JE x)) (λj=>Li j (JE x) (VE (JE x) j) (Dv (JE x) j) (UW (JE x) j) (Ei (JE x) j) (VW (JE x) j) (Dy (JE x) j)) (AI (I8 x)) (AI (M3 x)) (CV (Bo (YQ x)) (KM (YQ x) 12) (D6 (JE x)) (M1 (JE x) (ZU (YQ x) (JE x)))) (IM (I8 x)) (KM (I8 x) (M3 x)) (KM (M3 x) 1000000000)) (Ba (Hc (AUS (UH 0) Fa) (vA (LW (Yx (YQ x) (JE x) (nV x))) (YQ x))) (vA (AZ (PN (shV (ShS.mk (ZU (YQ x) (JE x)) (yVo x))))) (YQ x)) nI (TV (BW (jI x) (pG x) (BH (Fw x) (Yx (YQ x) (JE x) (nV x))) (BO (Fw x) (Yx (YQ x) (JE x) (nV x))) (xM (U2 x) (shV (ShS.mk (ZU (YQ x) (JE x)) (yVo x)))) (AE (λj=>Hr j (U2 x) (FY (shV (ShS.mk (ZU (YQ x) (JE x)) (yVo x))) j) (FT (shV (ShS.mk (ZU (YQ x) (JE x)) (yVo x))) j)))))) (Pb EB (LR (λj=>EM (jI x) (aP (pG x) (MO (Fw x)) (IU (Fw x)) (OV (U2 x)) (PG (U2 x)) (gX (Fw x)) (BC j)) (MH j (BQ (Fw x)))) (λj=>Oq (MH j (BQ (Fw x))) (RL j (LW (Fw x))) (AQ (MZ j (Fw x)) (CL j (PN (U2 x))) (Uj (NJ (ID (Fw x) j) (FY (U2 x) j) (FT (U2 x) j)) nI (λk=>Bg (rH (Xs x) (aP (pG x) (MO (Fw x)) (IU (Fw x)) (OV (U2 x)) (PG (U2 x)) (gX (Fw x)) (AR k j))) k (BQ (Fw x)) k j))) (Wo (jI x) (pG x) (MO (Fw x)) (IU (Fw x))))) (Pb EB (BW (JZ (Fw x)) (JO (Fw x)) (WJ (XN (Fw x))) (JZ (Xs x)) (JO (Xs x)) (FI (XN (Xs x)) 1073741824)) (SQ Fa (hd7 (ATB (Fw x)) (nV x)) Fa))))))))))))))):=by kernel_rfl
end Go.Bal
set_option maxRecDepth 8000
namespace Go.Bal
open Go Go.Sym Go.Proofs
attribute [local irreducible] TC eD mdG mdR VJ UP Db atM atE cS Ts
theorem CTI{q:Rt}(h:sN q):wr (q.n.tdiv q.d)=q.n / q.d/\0<=q.n / q.d/\q.n / q.d<=200000:=by
 obtain⟨⟨h1,h2⟩,h3,h4⟩:=h
 have a:0<=q.n / q.d:=Int.ediv_nonneg h3 (by omega)
 have b:q.n / q.d<=200000:=by
  have:=Int.ediv_le_ediv h1 h4
  rwa [Int.mul_ediv_cancel _ (by omega)] at this
 refine⟨?_,a,b⟩
 rw[Int.tdiv_eq_ediv_of_nonneg h3]
 exact ER (by omega) (by omega)
theorem DDV{a q:Rt}(ha:sN a)(hq:sN q)(h:Ni a q):a.n / a.d<=q.n / q.d:=by
 have a1:=ha.1.1;have q1:=hq.1.1
 rw[Int.le_ediv_iff_mul_le q1]
 have m:=Int.ediv_mul_le a.n (show a.d≠0 by omega)
 have m2:=Int.mul_le_mul_of_nonneg_right m (show 0<=q.d by omega)
 have h:a.n*q.d<=q.n*a.d:=h
 have e:a.n / a.d*q.d*a.d=a.n / a.d*a.d*q.d:=by rw[Int.mul_assoc,Int.mul_comm q.d a.d,<-Int.mul_assoc]
 exact Int.le_of_mul_le_mul_right (a:=a.d) (by omega) a1
theorem DBJ{b:Rt}(h:sN b):wr ((wr (wr (b.n+b.d)-1)).tdiv b.d)=(b.n+b.d-1) / b.d/\(b.n+b.d-1) / b.d<=200000:=by
 obtain⟨⟨h1,h2⟩,h3,h4⟩:=h
 have e1:wr (b.n+b.d)=b.n+b.d:=ER (by omega) (by omega)
 have e2:wr (b.n+b.d-1)=b.n+b.d-1:=ER (by omega) (by omega)
 have c:(b.n+b.d-1) / b.d<=200000:=by
  have:(b.n+b.d-1) / b.d<200001:=Int.ediv_lt_of_lt_mul h1 (by omega)
  omega
 have c0:0<=(b.n+b.d-1) / b.d:=Int.ediv_nonneg (by omega) (by omega)
 refine⟨?_,c⟩
 rw[e1,e2,Int.tdiv_eq_ediv_of_nonneg (by omega)]
 exact ER (by omega) (by omega)
theorem DCM{b q:Rt}(hb:sN b)(hq:sN q)(h:Ni q b):q.n / q.d<=(b.n+b.d-1) / b.d:=by
 have b1:=hb.1.1;have q1:=hq.1.1
 have h:q.n*b.d<=b.n*q.d:=h
 have m:=Int.mul_le_mul_of_nonneg_right (Int.ediv_mul_le q.n (show q.d≠0 by omega)) (show 0<=b.d by omega)
 rw[Int.le_ediv_iff_mul_le b1]
 have e:q.n / q.d*q.d*b.d=q.n / q.d*b.d*q.d:=by rw[Int.mul_assoc,Int.mul_comm q.d b.d,<-Int.mul_assoc]
 have:q.n / q.d*b.d<=b.n:=Int.le_of_mul_le_mul_right (a:=q.d) (by omega) q1
 omega
def okBy(l:List Int):Prop:=∀i,i<l.length->0<=gD l i/\gD l i<=255
structure YeH(x:YeI):Prop where
 n:okBy x.n
 g:okBy x.g
 c:okBy x.c
theorem y_C(x:YeI):TC (yM x)=yC x:=by unfold yC;rfl
theorem y_T(x:YeI):eD (yM x)=yT x:=by unfold yT;rfl
theorem y_V(x:YeI)(i:Nat):VJ ⟨⟨yC x,(yT x).z⟩,gD (yT x).t i⟩=yV x i:=by unfold yV;rfl
structure YeA(x:YeI):Prop where
 p1:wD (yM x)
 p2:preM (yN x)
 F:MadeF (yM x)
 R:Fits (yG x) (yR x)
 gl:1<=(yG x).length/\(yG x).length<=9
 rl:1<=(yR x).l.length
 oY:MM (yY x)
 ml:1<=(yC x).ms.length/\(yC x).ms.length<=10
 tl:FQ x=(yC x).ms.length
 sl:(yT x).s.length=(yC x).ms.length
 nl:(yC x).ns.length<=(yC x).ms.length
 zl:(yT x).z.length<=1000
theorem DDQ{c:Cht}{z:List Int}(h:ChOk c)(hz:okZ ⟨c,z⟩=true):z.length<=40:=by
 have hm:=h.m
 obtain⟨q1,q2⟩:=(BRS (a:=⟨c,z⟩) hm).1 hz
 dsimp only at q1 q2
 rcases CDY q2 (a:=0) (b:=40) (λg hg=>by have:=q1 g hg;omega) with q | q
 ·omega
 ·rw[q];decide
theorem yeA{x:YeI}(h:YeH x):YeA x:=by
 have hp1:wD (yM x):=CBW h.n ⟨by omega,by omega⟩
 have hp2:preM (yN x):=⟨⟨⟨Int.le_refl _,Int.le_refl _⟩,⟨Int.le_refl _,by show (0:Int)<251;omega⟩,h.g⟩,by show (1:Int)<=9/\(9:Int)<=100;omega⟩
 have hF:MadeF (yM x):=CYE hp1
 obtain⟨hR,hGl⟩:=BXU hp2
 have hR:Fits (yG x) (yR x):=hR
 have hG:(yG x).length<=9:=hGl
 have hl:=hR.lines
 obtain⟨⟨c1,c2⟩,c3,c4,c5⟩:=hF.len
 have c1:1<=(yC x).ms.length:=c1
 have c2:((yC x).ms.length:Int)<=10:=c2
 have c3:(yT x).t.length=(yC x).ms.length:=c3
 have c4:(yT x).s.length=(yC x).ms.length:=c4
 have c5:(yC x).ns.length<=(yC x).ms.length:=c5
 exact⟨hp1,hp2,hF,hR,⟨hR.len,hG⟩,by omega,hR.rise _ (FD (show 0<(yR x).l.length by omega)),⟨c1,by omega⟩,c3,c4,c5,Nat.le_trans (DDQ hF.ok hF.z) (by decide)⟩
theorem AMO{x:YeI}{k:Nat}(h:k<(yG x).length):yK x (k+1)=if KU (yY x) (gD (yG x) k)=true then yK x k ++ [gD (yG x) k] else yK x k:=by
 unfold yK
 rw[YG h,List.filter_append]
 by_cases hp:KU (yY x) (gD (yG x) k)=true
 ·rw[if_pos hp,List.filter_cons_of_pos hp];rfl
 ·rw[if_neg hp,List.filter_cons_of_neg hp];simp
theorem BKA(x:YeI)(k:Nat):(yK x k).length<=(yG x).length:=by
 unfold yK
 exact Nat.le_trans (List.length_filter_le _ _) (List.length_take_le' _ _)
theorem AFO{x:YeI}(A:YeA x){k:Nat}(hk:k<(yG x).length):yFit x k (Tc x).length=KU (yY x) (gD (yG x) k):=by
 have hp:=(BCC (l:=yG x) ⟨A.gl.1,by have:=A.gl.2;omega⟩ A.R.ok A.oY).2 k hk
 have hp:(k:Int)∈Tc x↔KU (yY x) (gD (yG x) k)=false:=hp
 unfold yFit
 rw[List.take_length]
 cases hq:KU (yY x) (gD (yG x) k) with
 |true=>
  rw[List.all_eq_true]
  intro b hb
  rw[bne_iff_ne]
  intro e
  rw[e] at hb
  rw[hp.1 hb] at hq;cases hq
 |false=>
  rw[List.all_eq_false]
  exact⟨(k:Int),hp.2 hq,by simp⟩
theorem AVN{x:YeI}{k j:Nat}(hj:j<(Tc x).length):yFit x k (j+1)=bif yFit x k j then gD (Tc x) j != (k:Int) else false:=by
 unfold yFit
 rw[YG hj,List.all_append]
 cases (List.take j (Tc x)).all λb=>b != (k:Int)
 ·rfl
 ·show (true&&(gD (Tc x) j != (k:Int)&&true))=_
  rw[Bool.true_and,Bool.and_true];rfl
structure YeD(x:YeI)(i:Nat):Prop where
 st:(yV x i).2=0
 ea:Db ⟨yO x,[],yLo x i⟩=0
 eb:Db ⟨yO x,[],yHi x i⟩=0
 eq:atE ⟨yW x,yRe x i⟩=0
 oa:sN (yA x i).lo
 ob:sN (yB x i).hi
 oq:sN (yQ x i)
 f:yF x i=(yQ x i).n / (yQ x i).d/\0<=yF x i/\yF x i<=200000
 d:0<=(yDv x i).lo/\(yDv x i).lo<=yF x i/\yF x i<=(yDv x i).hi/\(yDv x i).hi<=200000
theorem CYJ{a b c:Int}(h1:a<=b)(h2:b<=c)(h3:-3000000<=a)(h4:c<=3000000):(0<=IF 2000 (wr ((EU 0 a).tdiv 10))/\IF 2000 (wr ((EU 0 a).tdiv 10))<=2000)/\(0<=IF 2000 (wr ((EU 0 b).tdiv 10))/\IF 2000 (wr ((EU 0 b).tdiv 10))<=2000)/\(0<=IF 2000 (wr ((wr (EU 0 c+9)).tdiv 10))/\IF 2000 (wr ((wr (EU 0 c+9)).tdiv 10))<=2000)/\IF 2000 (wr ((EU 0 a).tdiv 10))<=IF 2000 (wr ((EU 0 b).tdiv 10))/\IF 2000 (wr ((EU 0 b).tdiv 10))<=IF 2000 (wr ((wr (EU 0 c+9)).tdiv 10)):=by
 have x1:=M5 0 a
 have x2:=M5 0 b
 have x3:=M5 0 c
 generalize EU 0 a=p at *
 generalize EU 0 b=q at *
 generalize EU 0 c=r at *
 have e:wr (r+9)=r+9:=ER (by omega) (by omega)
 rw[e,Int.tdiv_eq_ediv_of_nonneg (show 0<=p by omega),Int.tdiv_eq_ediv_of_nonneg (show 0<=q by omega),Int.tdiv_eq_ediv_of_nonneg (show 0<=r+9 by omega)]
 have e1:wr (p / 10)=p / 10:=ER (by omega) (by omega)
 have e2:wr (q / 10)=q / 10:=ER (by omega) (by omega)
 have e3:wr ((r+9) / 10)=(r+9) / 10:=ER (by omega) (by omega)
 rw[e1,e2,e3]
 have y1:=AEZ 2000 (p / 10)
 have y2:=AEZ 2000 (q / 10)
 have y3:=AEZ 2000 ((r+9) / 10)
 omega
theorem yeD{x:YeI}(A:YeA x)(hO:yO x≠[]){i:Nat}(hi:i<FQ x):YeD x i:=by
 have hk:i<(TC (yM x)).ms.length:=by have:=A.tl;show i<(yC x).ms.length;omega
 obtain⟨m1,⟨m2,m3⟩,m4,m5⟩:=BLV A.F hk
 rw[y_C,y_T,y_V] at m1 m2 m3 m4 m5
 obtain⟨⟨l1,l2⟩,⟨r1,r2⟩,⟨h1,h2⟩,lr,rh⟩:=CYJ m2 m3 m4 m5
 have hc:LY (yO x)=0:=by
  refine ADQ ⟨?_,?_⟩ λg hg=>A.R.ok g (List.mem_of_mem_take (List.mem_filter.1 hg).1)
  ·rcases Nat.eq_zero_or_pos (yO x).length with q | q
   ·exact absurd (List.eq_nil_of_length_eq_zero q) hO
   ·exact q
  ·have a:=BKA x (yG x).length
   have b:=A.gl
   show (yK x (yG x).length).length<=24
   omega
 have hp:(OF (yY x)).passes (yO x):=CKF A.oY
 obtain⟨⟨a1,a2,a3⟩,a4,a5,a6,a7⟩:=CIG hc A.oY hp (s:=yLo x i) (t:=yRe x i) ⟨l1,l2⟩ ⟨r1,r2⟩
 obtain⟨⟨b1,b2,b3⟩,b4,b5,b6,b7⟩:=CIG hc A.oY hp (s:=yHi x i) (t:=yRe x i) ⟨h1,h2⟩ ⟨r1,r2⟩
 have la:Ni (yA x i).lo (yQ x i):=a6 lr
 have lb:Ni (yQ x i) (yB x i).hi:=b7 rh
 have oa:sN (yA x i).lo:=a2
 have ob:sN (yB x i).hi:=b3
 have oq:sN (yQ x i):=a5
 have f1:=CTI oq
 have f2:=CTI oa
 have f3:=DBJ ob
 have f4:=DDV oa oq la
 have f5:=DCM ob oq lb
 have ef:yF x i=(yQ x i).n / (yQ x i).d:=f1.1
 have dl:(yDv x i).lo=(yA x i).lo.n / (yA x i).lo.d:=f2.1
 have dh:(yDv x i).hi=((yB x i).hi.n+(yB x i).hi.d-1) / (yB x i).hi.d:=f3.1
 exact⟨m1,a1,b1,a4,oa,ob,oq,⟨ef,by rw[ef];exact f1.2⟩,by rw[dl,dh,ef];exact⟨f2.2.1,f4,f5,f3.2⟩⟩
theorem CSR(a b:Int):a<=EU a b/\b<=EU a b/\(EU a b=a∨EU a b=b):=by unfold EU;split<;>omega
theorem CTY{x:YeI}(D:∀i,i<FQ x->YeD x i):∀k:Nat,k<=FQ x->(0<=yRi x k/\yRi x k<=200000)/\(0<=yFa x k/\yFa x k<=200000)/\∀i,i+1<k->yF x (i+1)-yF x i<=yRi x k/\yF x i-yF x (i+1)<=yFa x k
 |0,_=>⟨⟨Int.le_refl _,by show (0:Int)<=200000;omega⟩,⟨Int.le_refl _,by show (0:Int)<=200000;omega⟩,λi hi=>by omega⟩
 |1,_=>⟨⟨Int.le_refl _,by show (0:Int)<=200000;omega⟩,⟨Int.le_refl _,by show (0:Int)<=200000;omega⟩,λi hi=>by omega⟩
 |k+2,hk=>by
  obtain⟨h1,h2,h3⟩:=CTY D (k+1) (by omega)
  have d0:=(D k (by omega)).f
  have d1:=(D (k+1) (by omega)).f
  have e1:wr (yF x (k+1)-yF x k)=yF x (k+1)-yF x k:=ER (by omega) (by omega)
  have e2:wr (yF x k-yF x (k+1))=yF x k-yF x (k+1):=ER (by omega) (by omega)
  have er:yRi x (k+2)=EU (yRi x (k+1)) (yF x (k+1)-yF x k):=by show EU _ (wr _)=_;rw[e1]
  have ef:yFa x (k+2)=EU (yFa x (k+1)) (yF x k-yF x (k+1)):=by show EU _ (wr _)=_;rw[e2]
  have m1:=CSR (yRi x (k+1)) (yF x (k+1)-yF x k)
  have m2:=CSR (yFa x (k+1)) (yF x k-yF x (k+1))
  rw[er,ef]
  refine⟨by omega,by omega,λi hi=>?_⟩
  by_cases q:i=k
  ·subst q;omega
  ·have:=h3 i (by omega);omega
theorem BCV(x:YeI):(RE x).l=yDs x:=by unfold RE;rfl
theorem AKL(x:YeI):(RE x).r.rise=yRi x (FQ x)/\(RE x).r.fall=yFa x (FQ x):=by unfold RE;exact⟨rfl,rfl⟩
theorem BJP{x:YeI}{i:Nat}(hi:i<FQ x):gD (yDs x) i=yDv x i:=by unfold yDs;exact CS _ _ _ hi
theorem BYZ{x:YeI}{i:Nat}(hi:i<FQ x):gD (Xs x) i=yF x i:=by unfold Xs;exact CS _ _ _ hi
theorem BRZ(x:YeI):(Xs x).length=FQ x:=by unfold Xs;exact rng_length _ _
theorem BVG(x:YeI):(yDs x).length=FQ x:=by unfold yDs;exact rng_length _ _
theorem Kz(x:YeI):(RE x).l.length=FQ x:=by rw[BCV,BVG]
theorem AMN(x:YeI)(i:Nat):yDv x i=⟨true,(yDv x i).lo,(yDv x i).hi⟩:=by unfold yDv;rfl
theorem DBY(a b:Int):spVl ⟨true,a,b⟩=⟨a,b⟩:=rfl
theorem DDY(a b:Int):okVl ⟨true,a,b⟩=R3 ⟨a,b⟩:=rfl
theorem CFV{x:YeI}{i:Nat}(hi:i<FQ x):wQ (RE x) i=⟨(yDv x i).lo,(yDv x i).hi⟩:=by
 unfold wQ;rw[BCV,BJP hi,AMN,DBY]
theorem BRL{x:YeI}(A:YeA x)(D:∀i,i<FQ x->YeD x i):okRc (RE x)/\TruS (RE x).r (RE x).l.length (yF x)/\HolS (RE x).l.length (yF x) (wQ (RE x)):=by
 obtain⟨h1,h2,h3⟩:=CTY D (FQ x) (Nat.le_refl _)
 have hl:=A.tl;have hm:=A.ml
 have r1:0<=(RE x).r.rise/\(RE x).r.rise<=1000000000:=by rw[(AKL x).1];exact⟨h1.1,Int.le_trans h1.2 (by decide)⟩
 have r2:0<=(RE x).r.fall/\(RE x).r.fall<=1000000000:=by rw[(AKL x).2];exact⟨h2.1,Int.le_trans h2.2 (by decide)⟩
 have hn:1<=FQ x/\FQ x<=60:=by rw[hl];exact⟨hm.1,Nat.le_trans hm.2 (by decide)⟩
 rw[Kz]
 refine⟨⟨by rw[Kz];exact hn,r1,r2,?_⟩,⟨r1,r2,λi hi=>by rw[(AKL x).1,(AKL x).2];exact h3 i hi⟩,λi hi=>?_⟩
 ·rw[BCV]
  refine List.all_eq_true.2 λy hy=>?_
  obtain⟨i,hi,rfl⟩:=Hq hy
  rw[BVG] at hi
  rw[BJP hi,AMN,DDY]
  obtain⟨d1,d2,d3,d4⟩:=(D i hi).d
  unfold R3
  rw[Cp ⟨d1,Int.le_trans d2 d3⟩,Cp ⟨Int.le_trans d1 (Int.le_trans d2 d3),Int.le_trans d4 (by decide)⟩]
  rfl
 ·rw[CFV hi]
  obtain⟨d1,d2,d3,d4⟩:=(D i hi).d
  exact⟨d1,d2,d3,Int.le_trans d4 (by decide)⟩
theorem CRX{l:List Int}(h:okBy l):StmB 0 ⟨l,0,0⟩:=⟨⟨Int.le_refl _,Int.le_refl _⟩,⟨Int.le_refl _,by show (0:Int)<251;omega⟩,h⟩
structure YeV(x:YeI):Prop where
 tr:SC (Xs x)=To (yF x) (FQ x)
 t0:0<=SC (Xs x)/\SC (Xs x)<=2000000
 lo:0<=(yVo x).lo/\(yVo x).lo<=SC (Xs x)
 hi:SC (Xs x)<=(yVo x).hi/\(yVo x).hi<=2000000
 dl:(yD x).length=FQ x
 d:∀i,i<FQ x->(gD (yD x) i).lo<=gD (Xs x) i/\gD (Xs x) i<=(gD (yD x) i).hi
theorem CVK{r:Rec}{n:Nat}(hl:r.l.length=n)(hn:1<=n/\n<=60):voV ⟨r,0,wr ((n:Int)-1)⟩=⟨SC (HQ n λj=>(Ve r.r n (wQ r) j).lo),SC (HQ n λj=>(Ve r.r n (wQ r) j).hi)⟩:=by
 have e1:wr ((n:Int)-1)=n-1:=ER (by omega) (by omega)
 have e2:wr ((n:Int)-1+1)=n:=by rw[show (n:Int)-1+1=n by omega];exact ER (by omega) (by omega)
 unfold voV voE enV enP
 simp only[e1,e2,hl,Int.toNat_natCast,Int.toNat_zero,Nat.sub_zero,Nat.zero_add]
theorem yeV{x:YeI}(A:YeA x)(D:∀i,i<FQ x->YeD x i):YeV x:=by
 obtain⟨k1,k2,k3⟩:=BRL A D
 have hl:=A.tl;have hm:=A.ml
 have hn:1<=FQ x/\FQ x<=10:=by rw[hl];exact hm
 rw[Kz] at k2 k3
 have H:=BHY (by omega) k2 k3
 have hi2:∀i,i<FQ x->(Ve (RE x).r (FQ x) (wQ (RE x)) i).hi<=200000:=λi hi=>by
  have:=CQB (RE x).r (FQ x) (wQ (RE x)) i
  rw[CFV hi] at this
  exact Int.le_trans this (D i hi).d.2.2.2
 have ev:=CVK (Kz x) (show 1<=FQ x/\FQ x<=60 by omega)
 have s1:=zY (f:=λj=>(Ve (RE x).r (FQ x) (wQ (RE x)) j).lo) (c:=200000) (n:=FQ x) (by omega) (by omega) λi hi=>by have a:=H i hi;have b:=hi2 i hi;exact⟨a.1,by show (Ve _ _ _ i).lo<=_;omega⟩
 have s2:=zY (f:=λj=>(Ve (RE x).r (FQ x) (wQ (RE x)) j).hi) (c:=200000) (n:=FQ x) (by omega) (by omega) λi hi=>by have a:=H i hi;have b:=hi2 i hi;exact⟨by show 0<=(Ve _ _ _ i).hi;omega,b⟩
 have s0:=zY (f:=yF x) (c:=200000) (n:=FQ x) (by omega) (by omega) λi hi=>(D i hi).f.2
 have b0:=Q3 (f:=yF x) (c:=200000) (n:=FQ x) λi hi=>(D i hi).f.2
 have b1:=Q3 (f:=λj=>(Ve (RE x).r (FQ x) (wQ (RE x)) j).lo) (c:=200000) (n:=FQ x) λi hi=>by have a:=H i hi;have b:=hi2 i hi;exact⟨a.1,by show (Ve _ _ _ i).lo<=_;omega⟩
 have b2:=Q3 (f:=λj=>(Ve (RE x).r (FQ x) (wQ (RE x)) j).hi) (c:=200000) (n:=FQ x) λi hi=>by have a:=H i hi;have b:=hi2 i hi;exact⟨by show 0<=(Ve _ _ _ i).hi;omega,b⟩
 have c1:=AXM (f:=λj=>(Ve (RE x).r (FQ x) (wQ (RE x)) j).lo) (g:=yF x) (n:=FQ x) λi hi=>(H i hi).2.1
 have c2:=AXM (f:=yF x) (g:=λj=>(Ve (RE x).r (FQ x) (wQ (RE x)) j).hi) (n:=FQ x) λi hi=>(H i hi).2.2.1
 have et:SC (Xs x)=To (yF x) (FQ x):=s0
 have el:(yVo x).lo=To (λj=>(Ve (RE x).r (FQ x) (wQ (RE x)) j).lo) (FQ x):=by unfold yVo;rw[ev];exact s1
 have eh:(yVo x).hi=To (λj=>(Ve (RE x).r (FQ x) (wQ (RE x)) j).hi) (FQ x):=by unfold yVo;rw[ev];exact s2
 have hd:∀i,i<FQ x->gD (yD x) i=Ve (RE x).r (FQ x) (wQ (RE x)) i:=λi hi=>by
  unfold yD Y4;rw[Kz];exact CS _ _ _ hi
 refine⟨et,by rw[et];omega,by rw[et,el];omega,by rw[et,eh];omega,by unfold yD Y4;rw[rng_length,Kz],λi hi=>?_⟩
 rw[hd i hi,BYZ hi]
 exact⟨(H i hi).2.1,(H i hi).2.2.1⟩
structure YeS(x:YeI):Prop where
 ok:okCm (yCm x)
 s:1<=(yCm x).s/\(yCm x).s<=12
 gl:(I1 x).length=(yCm x).s.toNat
 sl:(yShr x).length=(yCm x).s.toNat
 i:∀j,j<(yCm x).s.toNat->(gD (yShr x) j).lo<=gD (I1 x) j/\gD (I1 x) j<=(gD (yShr x) j).hi
 sum:SC (I1 x)<=SC (Xs x)
theorem BPN{y:Srv}{j:Nat}(h:j<y.c.s.toNat):gD (svV y) j=wS y.c.l y.f y.c.l.length j:=by unfold svV;exact CS _ _ _ h
theorem yeS{x:YeI}(hc:okBy x.c)(V:YeV x):YeS x:=by
 have ok:okCm (yCm x):=DAO (CRX hc)
 have R:=BON ok
 have t0:=V.t0;have lo:=V.lo;have hi:=V.hi
 have hs:=R.s
 refine⟨ok,hs,by unfold I1 svV;exact rng_length _ _,by unfold yShr shV;exact rng_length _ _,λj hj=>?_,?_⟩
 ·have e1:gD (I1 x) j=wS (yCm x).l (SC (Xs x)) (yCm x).l.length j:=by unfold I1;exact BPN (y:=⟨yCm x,SC (Xs x)⟩) hj
  have e2:gD (yShr x) j=⟨wS (yCm x).l (yVo x).lo (yCm x).l.length j,wS (yCm x).l (yVo x).hi (yCm x).l.length j⟩:=by
   unfold yShr shV
   rw[CS _ _ _ hj]
   unfold shP shL shH
   rw[BPN (y:=⟨yCm x,(yVo x).lo⟩) hj,BPN (y:=⟨yCm x,(yVo x).hi⟩) hj]
  rw[e1,e2]
  exact⟨ATG R lo.1 lo.2 (by omega) _ (Nat.le_refl _) j,ATG R t0.1 hi.1 (by omega) _ (Nat.le_refl _) j⟩
 ·have hf:0<=SC (Xs x)/\SC (Xs x)<=1000000000:=by omega
  have a:=BSQ R hf _ (Nat.le_refl _)
  have b:=AIC R hf _ (Nat.le_refl _)
  have e:SC (I1 x)=To (wS (yCm x).l (SC (Xs x)) (yCm x).l.length) (yCm x).s.toNat:=by
   unfold I1 svV
   exact zY (c:=1000000000) (by omega) (show (yCm x).s.toNat<=1000 by omega) λi _=>by have:=BPT R hf _ (Nat.le_refl _) i;exact⟨this.1,Int.le_trans this.2 (by omega)⟩
  rw[e];omega
end Go.Bal
set_option maxRecDepth 8000
namespace Go.Bal
open Go Go.Sym Go.Proofs
attribute [local irreducible] TC eD mdG mdR VJ UP Db atM atE cS Ts Y4 voV svV shV mcV SC Ve fwdS bwS
theorem y_M(x:YeI):MkIQ.mk ⟨x.n,0,0⟩ 10 true=yM x:=by unfold yM;rfl
theorem y_N(x:YeI):MkI.mk ⟨x.g,0,0⟩ 9=yN x:=by unfold yN;rfl
theorem y_G(x:YeI):mdG (yN x)=yG x:=by unfold yG;rfl
theorem y_R(x:YeI):mdR (yN x)=yR x:=by unfold yR;rfl
theorem y_W(x:YeI):(HQ (1-0) λi=>gD (yR x).l i)=(yW x).l:=by unfold yW yY;rfl
theorem y_W2(x:YeI):Rtg.mk [] (yW x).l=yW x:=by unfold yW;rfl
theorem y_B(x:YeI):cS ⟨yG x,yW x⟩=Tc x:=by unfold Tc;rfl
theorem CGT(c:Cht):Cht.mk c.p c.base c.scale c.off c.ms c.ns=c:=rfl
theorem CMM(s:Span):Span.mk s.lo s.hi=s:=rfl
theorem CFL(b:Bnd):Bnd.mk b.lo b.hi=b:=rfl
theorem CPE(r:Rt):Rt.mk r.n r.d=r:=rfl
theorem CBE(r:Rec):Rec.mk r.r r.l=r:=rfl
theorem DCE:(HQ 0 λ_=>(default:Int))=[]:=rfl
theorem DCZ:([]:List Int).length=0:=rfl
theorem y_Lo(x:YeI)(i:Nat):IF 2000 (IntKind.i64.wrap ((EU 0 (yV x i).1.lo).tdiv 10))=yLo x i:=by unfold yLo wr;rfl
theorem y_Hi(x:YeI)(i:Nat):IF 2000 (IntKind.i64.wrap ((IntKind.i64.wrap (EU 0 (yV x i).1.hi+9)).tdiv 10))=yHi x i:=by unfold yHi wr;rfl
theorem y_Re(x:YeI)(i:Nat):IF 2000 (IntKind.i64.wrap ((EU 0 (gD (yT x).s i)).tdiv 10))=yRe x i:=by unfold yRe wr;rfl
theorem y_A(x:YeI)(i:Nat):UP ⟨yO x,[],yLo x i⟩=yA x i:=by unfold yA;rfl
theorem y_Bb(x:YeI)(i:Nat):UP ⟨yO x,[],yHi x i⟩=yB x i:=by unfold yB;rfl
theorem y_Q(x:YeI)(i:Nat):atM ⟨yW x,yRe x i⟩=yQ x i:=by unfold yQ;rfl
theorem y_D(x:YeI):Y4 (RE x)=yD x:=by unfold yD;rfl
theorem y_Cm(x:YeI):mcV ⟨x.c,0,0⟩=yCm x:=by unfold yCm;rfl
theorem DAN(x:YeI):svV ⟨yCm x,SC (Xs x)⟩=I1 x:=by unfold I1;rfl
theorem DCD(x:YeI):shV ⟨yCm x,yVo x⟩=yShr x:=by unfold yShr;rfl
theorem y_Vo(x:YeI):voV ⟨RE x,0,IntKind.i64.wrap ((FQ x:Int)-1)⟩=yVo x:=by unfold yVo wr;rfl
theorem y_W3(x:YeI):Rtg.mk (yW x).b (yW x).l=yW x:=rfl
theorem CYT(x:YeI):(HQ (FQ x) λi=>gD (Xs x) i)=Xs x:=by have:=GC (Xs x);rw[BRZ] at this;exact this
theorem AXP(x:YeI):(yW x).l.length=1:=by unfold yW;rfl
theorem AZI(x:YeI):(yW x).b.length=0:=by unfold yW;rfl
theorem CRH(x:YeI):gD (yW x).l 0=gD (yR x).l 0:=by unfold yW yY;rfl
theorem BII{x:YeI}(A:YeA x):(Tc x).length<=9:=by
 have hP:Ts ⟨yG x,yW x⟩=0:=(BCC (l:=yG x) ⟨A.gl.1,by have:=A.gl.2;omega⟩ A.R.ok A.oY).1
 have hG:=A.gl
 unfold Tc cS
 rw[hP]
 show (R8 ⟨yG x,yW x⟩ (yG x).length).length<=9
 unfold R8
 rw[List.length_map]
 refine Nat.le_trans (List.length_filter_le _ _) ?_
 rw[List.length_range];exact hG.2
theorem cndY{a b c d p q r:Int}(h1:a=0)(h2:b=0)(h3:c=0)(h4:d=0)(h5:¬ p<1)(h6:¬ q<1)(h7:¬ r<1):(bif bif bif bif bif bif a != 0 then true else b != 0 then true else c != 0 then true else d != 0 then true else decide (p<1) then true else decide (q<1) then true else decide (r<1))=false:=by
 subst h1 h2 h3 h4
 rw[decide_eq_false h5,decide_eq_false h6,decide_eq_false h7];rfl
theorem appY{l:List Gau}{g:Gau}:∀i:Nat,i<(l ++ [g]).length->(gD (l ++ [g]) i).st=(bif decide (i<l.length) then (gD l i).st else g.st)/\(gD (l ++ [g]) i).lo=(bif decide (i<l.length) then (gD l i).lo else g.lo)/\(gD (l ++ [g]) i).hi=(bif decide (i<l.length) then (gD l i).hi else g.hi):=by
 intro i hi
 rw[BOF]
 cases hd:decide (i<l.length)
 ·have h1:i-l.length=0:=by
   have:=of_decide_eq_false hd
   rw[List.length_append] at hi
   have:i<l.length+1:=hi
   omega
  rw[h1];exact⟨rfl,rfl,rfl⟩
 ·exact⟨rfl,rfl,rfl⟩
theorem BIV{l:List Gau}{g:Gau}:(l ++ [g]).length=l.length+1:=by rw[List.length_append];rfl
theorem yQc{x:YeI}{i:Nat}(D:YeD x i):(bif bif bif bif bif bif (yV x i).snd != 0 then true else Db ⟨yO x,[],yLo x i⟩ != 0 then true else Db ⟨yO x,[],yHi x i⟩ != 0 then true else atE ⟨yW x,yRe x i⟩ != 0 then true else decide ((yA x i).lo.d<1) then true else decide ((yB x i).hi.d<1) then true else decide ((yQ x i).d<1))=false:=
 cndY D.st D.ea D.eb D.eq (by have:=D.oa.1.1;omega) (by have:=D.ob.1.1;omega) (by have:=D.oq.1.1;omega)
theorem DDM{x:YeI}{k:Nat}(hk:0<k):yRi x (k+1)=EU (yRi x k) (wr (yF x k-yF x (k-1)))/\yFa x (k+1)=EU (yFa x k) (wr (yF x (k-1)-yF x k)):=by
 obtain⟨j,rfl⟩:∃j,k=j+1:=⟨k-1,by omega⟩
 exact⟨rfl,rfl⟩
set_option maxHeartbeats 4000000 in
theorem p_Ye(x:YeI)(h:YeH x):V_Ye x:=by
 have A:=yeA h
 have hG:=A.gl
 have rl:=A.rl
 have ml:=A.ml;have tl:=A.tl;have sl:=A.sl;have nl:=A.nl;have zl:=A.zl
 have ht:(yT x).t.length=FQ x:=by unfold FQ;rfl
 have hP:Ts ⟨yG x,yW x⟩=0:=(BCC (l:=yG x) ⟨A.gl.1,by omega⟩ A.R.ok A.oY).1
 rw[DCV]<;> dsimp only[go_sem];simp only[CC,CU,CK,JD,FM,FK,FL,QZ,KA,JV,OE,OD,CTL,CUM,AYH,y_M,y_N,y_C,y_T,y_G,y_R,y_W,DCE,DCZ,y_W2,y_B,y_V,CGT,CMM,CFL,CPE,CBE,BRZ,y_Lo,y_Hi,y_Re,y_A,y_Bb,y_Q,y_D,y_Cm,DAN,DCD,y_Vo,y_W3,CYT]
 refine⟨⟨rfl,A.p1⟩,⟨rfl,A.p2⟩,λhc=>?_,λ_=>⟨⟨by omega,by omega,by omega⟩,⟨AXP x,λi hi=>?_,by omega,by omega,by omega⟩,⟨λhc=>(by rw[hP] at hc;cases hc),λ_=>⟨default,AZI x,AZI x,AXP x,λi hi=>?_⟩⟩,⟨⟨0,rfl,Nat.zero_le _,rfl⟩,λk ⟨hk,k2⟩=>⟨λhlt=>⟨⟨⟨by omega,hlt⟩,⟨⟨k,0,[]⟩,⟨rfl,rfl,rfl,rfl,rfl,rfl,rfl⟩,by show k<_;omega,rfl,k2,Nat.zero_le _⟩,λy ⟨y1,y2,y3,y4⟩=>⟨λhj=>?_,λhj=>⟨λhf=>?_,λhf=>?_⟩⟩⟩,λj ⟨y1,y2,y3⟩=>⟨j+1,(BJ (by omega)).symm,⟨by omega,y3⟩,by omega⟩,λy ⟨y1,y2,y3⟩=>⟨⟨y.i+1,y.l⟩,⟨rfl,(BJ (by omega)).symm,rfl,λ_ _=>⟨rfl,rfl,rfl⟩⟩,⟨by show y.i+1<=_;omega,y3⟩,by show _-(y.i+1)<_;omega⟩⟩,λhge=>⟨default,?_⟩⟩,λw ⟨w1,w2⟩=>⟨λhlt=>⟨⟨⟨by omega,hlt⟩,⟨⟨w.i,0,w.l⟩,⟨rfl,rfl,rfl,rfl,rfl,rfl,rfl,rfl,rfl,λ_ _=>⟨rfl,rfl,rfl⟩⟩,by show w.i<_;omega,rfl,w2,Nat.zero_le _⟩,λy ⟨y1,y2,y3,y4⟩=>⟨λhj=>?_,λhj=>⟨λhf=>?_,λhf=>?_⟩⟩⟩,λy ⟨y1,y2,y3⟩=>⟨⟨y.i+1,y.l⟩,⟨rfl,(BJ (by omega)).symm,rfl,λ_ _=>⟨rfl,rfl,rfl⟩⟩,⟨by show y.i+1<=_;omega,y3⟩,by show _-(y.i+1)<_;omega⟩⟩,λhge=>⟨default,?_⟩⟩⟩,λhO=>?_⟩⟩
 ·have:=eq_of_beq hc;omega
 ·obtain rfl:i=0:=by omega
  rw[CRH];exact⟨rfl,rfl,rfl,rfl⟩
 ·obtain rfl:i=0:=by rw[AXP] at hi;omega
  rw[CRH];exact⟨rfl,rfl,rfl,rfl⟩
 ·have hj:y.j<(Tc x).length:=by omega
  exact⟨⟨by omega,by omega⟩,⟨⟨y.k,y.j+1,[]⟩,⟨rfl,rfl,AVN hj,(BJ (by have:=BII A;omega)).symm,rfl,rfl,rfl⟩,⟨y1,y2,y3,by show y.j+1<=_;omega⟩,by show _-(y.j+1)<_;omega⟩⟩
 ·obtain e:y.j=(Tc x).length:=by omega
  rw[e,AFO A y1] at hf
  refine⟨⟨λh=>absurd h (by omega),by omega,by omega,by omega,by omega⟩,⟨⟨y.k,[gD (yG x) y.k]⟩,⟨rfl,rfl,rfl,λi hi=>?_⟩,y1,y2,?_⟩⟩
  ·obtain rfl:i=0:=by have h1:i<1:=hi;omega
   exact⟨rfl,rfl,rfl⟩
  ·show [gD (yG x) y.k]=yK x (y.k+1)
   rw[AMO y1,if_pos hf,y3];rfl
 ·obtain e:y.j=(Tc x).length:=by omega
  rw[e,AFO A y1] at hf
  refine⟨y.k,rfl,y1,y2,?_⟩
  rw[AMO y1,if_neg (by rw[hf];decide),y3]
 ·have e:yO x=yK x k:=by unfold yO;rw[show (yG x).length=k by omega]
  rw[e,k2];rfl
 ·have hj:y.j<(Tc x).length:=by omega
  exact⟨⟨by omega,by omega⟩,⟨⟨y.k,y.j+1,y.l⟩,⟨rfl,rfl,rfl,AVN hj,(BJ (by have:=BII A;omega)).symm,rfl,rfl,rfl,rfl,λ_ _=>⟨rfl,rfl,rfl⟩⟩,⟨y1,y2,y3,by show y.j+1<=_;omega⟩,by show _-(y.j+1)<_;omega⟩⟩
 ·obtain e:y.j=(Tc x).length:=by omega
  rw[e,AFO A y1] at hf
  have ll:y.l.length<=9:=by rw[y3];have:=BKA x y.k;omega
  refine⟨⟨by omega,λh=>(by cases h),by omega,by omega⟩,⟨⟨y.k,y.l ++ [gD (yG x) y.k]⟩,⟨BIV,rfl,BIV,appY⟩,y1,y2,?_⟩⟩
  show y.l ++ [gD (yG x) y.k]=yK x (y.k+1)
  rw[AMO y1,if_pos hf,y3]
 ·obtain e:y.j=(Tc x).length:=by omega
  rw[e,AFO A y1] at hf
  refine⟨⟨y.k,y.l⟩,⟨rfl,rfl,rfl,λ_ _=>⟨rfl,rfl,rfl⟩⟩,y1,y2,?_⟩
  show y.l=yK x (y.k+1)
  rw[AMO y1,if_neg (by rw[hf];decide),y3]
 ·have e:yO x=w.l:=by rw[w2];unfold yO;rw[show (yG x).length=w.i by omega]
  rw[e];exact⟨rfl,Nat.le_refl _,λ_ _=>⟨rfl,rfl,rfl⟩⟩
 ·have hO':yO x≠[]:=λe=>by rw[e] at hO;cases hO
  have oL:(yO x).length<=9:=by have:=BKA x (yG x).length;unfold yO;omega
  have D:∀i,i<FQ x->YeD x i:=λi hi=>yeD A hO' hi
  have V:=yeV A D
  have S:=yeS h.c V
  have k1:=BRL A D
  have hT:dpT (RE x):=⟨k1.1,yF x,k1.2.1,k1.2.2⟩
  have hn:1<=FQ x/\FQ x<=10:=by omega
  have bl:=AZI x
  have wl:=AXP x
  have em:IntKind.i64.wrap ((FQ x:Int)-1)=(FQ x:Int)-1:=ER (by omega) (by omega)
  have f1:NJ (SC (Xs x)) (yVo x).lo (yVo x).hi=true:=Cp ⟨V.lo.2,V.hi.1⟩
  have stm:StmB 0 ⟨x.c,0,0⟩:=CRX h.c
  have dd:=V.dl
  have gl:=S.gl;have shl:=S.sl;have ss:=S.s
  have es:((yCm x).s.toNat:Int)=(yCm x).s:=Int.toNat_of_nonneg (by omega)
  refine⟨⟨⟨default,congrArg Int.ofNat ht.symm,rfl,rfl⟩,⟨λh0=>?_,λh0=>absurd h0 (by omega)⟩,λk ⟨hk1,hk2⟩=>⟨λhlt=>?_,λhge=>?_⟩⟩,hT,⟨rfl,hT,by omega,by rw[em];omega,by rw[em,Kz];omega⟩,⟨λ_=>by omega,λhc=>?_,λ_=>⟨default,trivial⟩⟩,⟨⟨0,rfl,Nat.zero_le _⟩,λk hk=>⟨λhlt=>?_,λ_=>⟨default,trivial⟩⟩⟩,stm,⟨by omega,S.ok,V.t0.1,by have:=V.t0.2;omega⟩,⟨S.ok,V.lo.1,by have:=V.lo;have:=V.hi;omega,by have:=V.hi.2;omega⟩,⟨λhc=>?_,λ_=>⟨default,trivial⟩⟩,⟨⟨0,rfl,Nat.zero_le _⟩,λk hk=>⟨λhlt=>?_,λ_=>⟨default,trivial⟩⟩⟩,⟨by omega,by omega⟩,?_⟩
  ·have d:=D 0 (by omega)
   have q:=d.oq.1.1;have qa:=d.oa.1.1;have qb:=d.ob.1.1
   refine⟨⟨by omega,by omega⟩,⟨by omega,by omega,by omega⟩,⟨by decide,by omega,by decide⟩,⟨by decide,by omega,by decide⟩,⟨⟨by omega,by omega⟩,by decide,by omega,by omega⟩,⟨λhc=>hc.symm.trans (yQc d),λ_=>⟨default,trivial⟩⟩,λhq=>by omega,⟨default,rfl,rfl,rfl⟩,⟨λh=>absurd h (by omega),by omega,by omega,by omega,by omega⟩,⟨by omega,by omega,λh=>absurd h (by omega),by omega,by omega,by omega,by omega⟩,⟨1,⟨rfl,rfl,rfl,rfl,rfl,rfl,λi hi=>?_,rfl,λi hi=>?_⟩,⟨by omega,by omega⟩,by omega⟩⟩
   ·obtain rfl:i=0:=by omega
    rfl
   ·obtain rfl:i=0:=by omega
    exact⟨rfl,rfl⟩
  ·have hk3:k<FQ x:=by omega
   have d:=D k hk3
   have q:=d.oq.1.1;have qa:=d.oa.1.1;have qb:=d.ob.1.1
   refine⟨⟨by omega,by omega⟩,⟨by omega,by omega,by omega⟩,⟨by decide,by omega,by decide⟩,⟨by decide,by omega,by decide⟩,⟨⟨by omega,by omega⟩,by decide,by omega,by omega⟩,⟨λhc=>hc.symm.trans (yQc d),λ_=>⟨k,⟨rfl,rfl,rfl,rfl,rfl,rfl,rfl,rfl,rfl,rfl,rfl,rfl,rfl,rfl,rfl,rfl,rfl⟩,hk1,hk3,rfl⟩⟩,λj ⟨j1,j2,j3⟩=>⟨λhq=>?_,⟨λhj=>?_,λhj=>absurd (show (j:Int)>0 by omega) hj⟩,λi ⟨i1,i2,i3⟩=>?_⟩⟩
   ·have:=(D j j2).oq.1.1;omega
   ·have ew:IntKind.i64.wrap ((j:Int)-1)=((j-1:Nat):Int):=by rw[ER (by omega) (by omega)];omega
    have rr:=DDM (x:=x) (k:=j) (by omega)
    rw[ew,Int.toNat_natCast]
    exact⟨⟨⟨by omega,by omega⟩,by omega,⟨by omega,by omega⟩,by omega⟩,⟨j,⟨rfl,rfl,rfl,rr.1,rr.2,rfl,rfl,rfl,rfl,rfl,rfl,rfl,rfl,rfl,rfl,rfl⟩,j1,j2,j3⟩⟩
   ·have di:=D i i2
    have qa:=di.oa.1.1;have qb:=di.ob.1.1
    refine⟨⟨by omega,λh=>(by cases h),by omega,by omega⟩,⟨by omega,by omega,by omega,λh=>(by cases h),by omega,by omega⟩,⟨i+1,⟨rfl,(BJ (by omega)).symm,rfl,rfl,rfl,rfl,λt ht=>?_,rfl,λt ht=>?_⟩,⟨by omega,by omega⟩,by omega⟩⟩
    ·by_cases q:t<i
     ·rw[decide_eq_true q];rfl
     ·obtain rfl:t=i:=by omega
      rw[decide_eq_false q];rfl
    ·by_cases q:t<i
     ·rw[decide_eq_true q,AMN];exact⟨rfl,rfl,rfl⟩
     ·obtain rfl:t=i:=by omega
      rw[decide_eq_false q];exact⟨rfl,rfl,rfl⟩
  ·obtain rfl:k=FQ x:=by omega
   exact⟨default,rfl,Nat.le_refl _,λj hj=>BYZ hj,(AKL x).1,(AKL x).2,Kz x,Nat.le_refl _,λj hj=>by rw[Kz] at hj;rw[BCV,BJP hj,AMN];exact⟨rfl,rfl,rfl⟩⟩
  ·simp only[dd,f1,bne_self_eq_false,cond_false,Bool.not_true,Bool.false_eq_true] at hc
  ·have v:=V.d k (by omega)
   have hk2:k<FQ x:=by omega
   refine⟨⟨by omega,hlt⟩,⟨by omega,by omega⟩,λhc=>?_,λ_=>⟨k+1,(BJ (by omega)).symm,by omega,by omega⟩⟩
   rw[Cp v] at hc;cases hc
  ·simp only[gl,shl,es,bne_self_eq_false,cond_false,Bool.false_eq_true] at hc
  ·have hk2:k<(yCm x).s.toNat:=by omega
   have v:=S.i k hk2
   refine⟨⟨by omega,hlt⟩,⟨by omega,by omega⟩,λhc=>?_,λ_=>⟨k+1,(BJ (by omega)).symm,by omega,by omega⟩⟩
   rw[Cp v] at hc;cases hc
  ·rw[decide_eq_true S.sum];rfl
theorem CZO(x:YeI)(h1:okBy x.n)(h2:okBy x.g)(h3:okBy x.c):FnT ZP 3 (xYe x) (AC []) (.bool true) []:=TF (A:=A_Ye x) (ren:=[]) (fz:=[]) Tryz.func3 (by kernel_rfl) (AA CWG (AA CBV (AA CKM (AA BWX (AA CVW (AA CEE (AA CNV (AA DDR (AA CIL (AA COK (AA CNY (AA CNK (AA CXK (AA CKC (AA CKZ AD))))))))))))))) (p_Ye x ⟨h1,h2,h3⟩)
end Go.Bal
set_option maxRecDepth 100000
namespace Go.Bal
open Go Go.Sym Go.Proofs Go.ChangeShapes Go.WideShapes Go.RowKit
theorem CAT{α:Type}[Inhabited α](f:Nat->α){n i:Nat}(h:i<n):gD ((List.range n).map f) i=f i:=by
 simp[gD,List.getD_eq_getElem?_getD,h]
def ALO(w:World):Ft:=λb=>match w.heap[b]? with
 |some (.cells c _ _)=>some c
 |_=>none
theorem CJM(w:World)(ι:Nat->Pl):HRel (ALO w) ι (AC []) w:=by
 refine⟨λi o h=>by simp[AC,JS] at h,λi j o o' h=>by simp[AC,JS] at h,λi o h=>by simp[AC,JS] at h,λb c h=>?_⟩
 unfold ALO at h
 split at h
 ·rename_i c' e fr hc
  cases h
  exact⟨e,fr,hc⟩
 ·cases h
theorem BEQ{w:World}{b off:Nat}{v:Value}(h:w.cell? ⟨b,off,none⟩=some v):∃c,ALO w b=some c/\c[off]?=some v:=by
 unfold World.cell? at h
 simp only at h
 split at h
 ·rename_i c e fr hc
  simp only[Option.isSome_none,Bool.false_eq_true,↓reduceIte] at h
  exact⟨c,by unfold ALO;rw[hc],h⟩
 ·cases h
section
variable {X : Type} {enc : TypeId × Value -> X} {P : Program} {w : World} {base : Nat} {spare : Nat -> Bool} {held : Bool}
def CDR(X:Type)(enc:TypeId×Value->X)(P:Program)(w:World)(base:Nat)(spare:Nat->Bool)(held:Bool)(e:TypeId)(k:Nat){α:Type}(en:α->DVal):Prop:=
 P.cellsOf e=k/\∀(fuel:Nat) (cs:List Value) (x:DataW X×List MemPlace),DataW.trod enc P w base spare held fuel e cs=some x->cs.length=k->∃d:α,(en d).cells1=cs.map DVal.v/\EY (en d).cells1=true
theorem CKK{α:Type}[Inhabited α]{t e:TypeId}{k:Nat}{en:α->DVal}(hk:0<k)(ht:P.underlying t=some (.slice e))(he:CDR X enc P w base spare held e k en){fuel:Nat}{v:Value}{x:DataW X×List MemPlace}
  (h:DataW.trod enc P w base spare held fuel t [v]=some x):∃l:List α,DRel (ALO w) (lst k l.length λi=>en (gD l i)) v:=by
 rcases DataW.trod_slice ht h with⟨h0,_⟩ | ⟨a,len,cap,elems,rest,n,_,hv,_,hb,hl,hm,hlen,hel,_⟩
 ·cases h0
  exact⟨[],.nil (λh=>by cases h) (.inl rfl)⟩
 ·cases hv
  by_cases h0:len=0
  ·subst h0
   exact⟨[],.nil (λh=>by cases h) (.inr (by simp))⟩
  obtain⟨hck,hE⟩:=he
  have each:∀i,∃(d:α) (cs:List Value),i<len->w.cells? base (a.add (i*k)) k=some cs/\(en d).cells1=cs.map DVal.v/\EY (en d).cells1=true:=by
   intro i
   by_cases hi:i<len
   ·have h1:=hel i hi
    have h2:elems[i]?=some (elems[i]'(by omega)):=List.getElem?_eq_getElem (by omega)
    rw[h2,Option.bind_eq_some_iff] at h1
    obtain⟨cs,h3,h4⟩:=h1
    rw[hck] at h3
    obtain⟨d,h5⟩:=hE n cs _ h4 (World.cells?_some h3).2.1
    exact⟨d,cs,λ_=>⟨h3,h5⟩⟩
   ·exact⟨default,[],λh=>absurd h hi⟩
  have cell:∀i j,i<len->j<k->∃y,(en (Classical.choose (each i))).cells1[j]?=some (.v y)/\w.cell? ((a.add (i*k)).add j)=some y:=by
   intro i j hi hj
   obtain⟨cs,hcs⟩:=Classical.choose_spec (each i)
   obtain⟨h1,h2,_⟩:=hcs hi
   obtain⟨_,h3,h4⟩:=World.cells?_some h1
   have h5:cs[j]?=some (cs[j]'(by omega)):=List.getElem?_eq_getElem (by omega)
   refine⟨cs[j]'(by omega),?_,?_⟩
   ·rw[h2,List.getElem?_map,h5];rfl
   ·rw[h4 j hj,h5]
  have hspot:a.spot=none:=by
   obtain⟨y,_,h1⟩:=cell 0 0 (by omega) hk
   have:=World.cell?_spot h1
   simpa[Addr.add] using this
  obtain⟨b,off,spot⟩:=a
  simp only at hspot
  subst hspot
  have cell':∀i j,i<len->j<k->∃y,(en (Classical.choose (each i))).cells1[j]?=some (.v y)/\w.cell? ⟨b,off+i*k+j,none⟩=some y:=by
   intro i j hi hj
   obtain⟨y,h1,h2⟩:=cell i j hi hj
   refine⟨y,h1,?_⟩
   have:((Addr.mk b off none).add (i*k)).add j=⟨b,off+i*k+j,none⟩:=by
    unfold Addr.add
    split<;>split<;>simp_all
   rw[<-this];exact h2
  obtain⟨y0,_,hc0⟩:=cell' 0 0 (by omega) hk
  obtain⟨c,hB,_⟩:=BEQ hc0
  have at':∀i j,i<len->j<k->∃y,(en (Classical.choose (each i))).cells1[j]?=some (.v y)/\c[off+i*k+j]?=some y:=by
   intro i j hi hj
   obtain⟨y,h1,h2⟩:=cell' i j hi hj
   obtain⟨c',h3,h4⟩:=BEQ h2
   rw[hB] at h3;cases h3
   exact⟨y,h1,h4⟩
  have hg:∀i,i<len->gD ((List.range len).map λi=>Classical.choose (each i)) i=Classical.choose (each i):=λi hi=>CAT _ hi
  have hll:((List.range len).map λi=>Classical.choose (each i)).length=len:=by simp
  refine⟨(List.range len).map λi=>Classical.choose (each i),?_⟩
  rw[hll]
  have e1:∀i,i<len->(en (Classical.choose (each i))).cells1.length=k:=by
   intro i hi
   obtain⟨cs,hcs⟩:=Classical.choose_spec (each i)
   obtain⟨h1,h2,_⟩:=hcs hi
   rw[h2,List.length_map];exact (World.cells?_some h1).2.1
  refine DRel.list (by omega) hB hl (λh=>by cases h) (λi hi=>?_) ?_ (λi j x y hi hx hy=>?_)
  ·rw[hg i hi]
   obtain⟨cs,hcs⟩:=Classical.choose_spec (each i)
   exact⟨e1 i hi,(hcs hi).2.2⟩
  ·obtain⟨y,_,h1⟩:=at' (len-1) (k-1) (by omega) (by omega)
   have h2:=(Array.getElem?_eq_some_iff.1 h1).1
   have h3:len*k=(len-1)*k+k:=by
    obtain⟨m,rfl⟩:∃m,len=m+1:=⟨len-1,by omega⟩
    rw[Nat.add_sub_cancel,Nat.succ_mul]
   omega
  ·rw[hg i hi] at hx
   have hj:j<k:=by
    have:=(List.getElem?_eq_some_iff.1 hx).1
    have:=e1 i hi
    omega
   obtain⟨z,h1,h2⟩:=at' i j hi hj
   rw[h1] at hx;rw[h2] at hy
   cases hx;cases hy
   exact .v _
end
section
variable {X : Type} {enc : TypeId × Value -> X} {w : World} {base : Nat} {spare : Nat -> Bool} {held : Bool}
abbrev Byt:={ n:Int // 0<=n/\n<=255 }
instance : Inhabited Byt := ⟨⟨0, by decide, by decide⟩⟩
theorem BXH:CDR X enc ZP w base spare held 5 1 (λb:Byt=>.v (.int .u8 b.val)):=by
 refine⟨by kernel_rfl,λfuel cs x h hl=>?_⟩
 obtain⟨n,rfl,_,hw⟩:=DataW.trod_int Tryz.underlying5 h
 have hw:(decide (IntKind.u8.min<=n)&&decide (n<=IntKind.u8.max))=true:=hw
 simp only[Bool.and_eq_true,decide_eq_true_eq] at hw
 have e1:IntKind.u8.min=0:=rfl
 have e2:IntKind.u8.max=255:=rfl
 exact⟨⟨n,by omega,by omega⟩,rfl,rfl⟩
theorem AGO{v:Value}{d:DataW X}{ps:List MemPlace}{r:Go.Reach}{b0:Nat}(hv:Value.okWide ZP w r b0 22 v)(h:DataW.Trod enc ZP w base spare held 22 v d ps):∃l:List Int,okBy l/\DRel (ALO w) (eBys l) v:=by
 obtain⟨a,len,cap,rfl⟩:=okWide_slice Tryz.underlying22 hv
 obtain⟨fuel,hf⟩:=h
 obtain⟨l,hl⟩:=CKK (by omega) Tryz.underlying22 BXH hf
 have hg:∀i,gD (l.map Subtype.val) i=(gD l i).val:=λi=>by
  simp only[gD,List.getD_eq_getElem?_getD,List.getElem?_map]
  cases l[i]?<;>rfl
 refine⟨l.map Subtype.val,λi hi=>by rw[hg];exact (gD l i).2,?_⟩
 unfold eBys
 rw[List.length_map]
 have e:(λi=>DVal.v (.int .u8 (gD (l.map Subtype.val) i)))=λi=>DVal.v (.int .u8 (gD l i).val):=by funext i;rw[hg]
 rw[e];exact hl
end
theorem BWL{g:FuncId}{xs:List AVal}(hg:FnT ZP g xs (AC []) (.bool true) []){w:World}{vs:Array Value}(hl:vs.size=xs.length)
  (hx:∀(j:Nat) (a:AVal) (y:Value),xs[j]?=some a->vs[j]?=some y->∃d,a=.d d/\DRel (ALO w) d y) :
  Calls ZP g vs w λe w'=>e=.returned (.bool true)/\Below w.heap.size w w':=by
 refine (hg.2 (ALO w) (λ_=>⟨0,0⟩) w vs ⟨hl,λj a y ha hy=>?_⟩ (CJM w _)).mono λe w' ⟨v,H',he,_,B',ι',hm,hv⟩=>?_
 ·obtain⟨d,rfl,hd⟩:=hx j a y ha hy
  exact .d hd
 ·subst he
  cases hv with
  |d hd=>
   cases hd
   exact⟨rfl,hm.calm.os,hm.calm.tape,hm.calm.output,hm.size,λk hk=>hm.frame k hk λi o h=>by simp[AC,JS] at h⟩
end Go.Bal
