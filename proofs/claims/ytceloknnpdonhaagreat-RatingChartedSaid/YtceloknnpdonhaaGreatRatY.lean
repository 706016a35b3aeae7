/- Package rating: ratings and gaugings that are made of numbers. -/
import Derived.Test.YtceloknnpdonhaaGreatRatU
set_option linter.unusedVariables false
set_option linter.unusedSimpArgs false
namespace Go.Bal
open Go Go.Sym Go.Proofs
structure MB where
 s:Stm
 a:Int
 b:List Int
 deriving Inhabited
def stpB(x:MB):MB:=⟨X9 x.s 5 60,wr (x.a+Yc x.s 5 60),x.b ++ [wr (x.a+Yc x.s 5 60)]⟩
def mkB:Nat->MB->MB
 |0,x=>x
 |n+1,x=>mkB n (stpB x)
def mB(s:Stm):MB:=mkB (FD s 3).toNat ⟨NM s 3,0,[]⟩
structure ML where
 s:Stm
 l:List Ln
 deriving Inhabited
def lnS1(s:Stm):Stm:=NM s 40
def lnS2(s:Stm):Stm:=NM (lnS1 s) 60
def lnS3(s:Stm):Stm:=X9 (lnS2 s) 1 60
def lnS4(s:Stm):Stm:=NM (lnS3 s) 200
def mkLn(s:Stm):Ln:=⟨FD s 40,FD (lnS1 s) 60,wr (FD s 40+Yc (lnS2 s) 1 60),wr (FD (lnS1 s) 60+FD (lnS3 s) 200)⟩
def stpL(x:ML):ML:=⟨lnS4 x.s,x.l ++ [mkLn x.s]⟩
def mkL:Nat->ML->ML
 |0,x=>x
 |n+1,x=>mkL n (stpL x)
def mL(s:Stm):ML:=mkL ((mB s).b.length+1) ⟨(mB s).s,[]⟩
structure MG where
 s:Stm
 l:List Gau
 deriving Inhabited
def ptK(b:List Int)(t:Int):Nat->Nat->Nat
 |0,k=>k
 |n+1,k=>bif decide (gD b k<=t) then ptK b t n (k+1) else k
def ptM(b:List Int)(t:Int):Nat:=ptK b t b.length 0
def X0(x:Ln)(t:Int):Int:=wr (wr (x.a1*wr (x.b0-x.a0))+wr (wr (x.b1-x.a1)*wr (t-x.a0)))
def wdG(x:Ln):Int:=wr (x.b0-x.a0)
def vG(x:Ln)(t:Int):Int:=wr ((X0 x t).tdiv (wdG x))
def mxG(n:Int):Int:=OL 0 n
def D9(x:Ln)(s:Stm)(t:Int):Gau:=⟨t,mxG (wr (vG x t-FD s 6)),wr (vG x t+Yc (NM s 6) 1 6)⟩
def Yx(x:Ln)(s:Stm)(t:Int)(l:List Gau):MG:=bif (bif decide (X0 x t<0) then true else decide (X0 x t>wr (1000*wdG x))) then⟨s,l⟩ else⟨X9 (NM s 6) 1 6,l ++ [D9 x s t]⟩
def mkG(b:List Int)(ls:List Ln)(n:Int):Nat->MG->MG
 |0,x=>x
 |k+1,x=>mkG b ls n k (Yx (gD ls (ptM b (FD x.s n))) (NM x.s n) (FD x.s n) x.l)
structure MkI where
 s:Stm
 m:Int
def hiG(a:MkI):Int:=wr ((mB a.s).a+80)
def mG0(a:MkI):MG:=⟨X9 (mL a.s).s 1 a.m,[]⟩
def mG(a:MkI):MG:=mkG (mB a.s).b (mL a.s).l (hiG a) (Yc (mL a.s).s 1 a.m).toNat (mG0 a)
def mdG(a:MkI):List Gau:=bif decide ((mG a).l.length=0) then [⟨1,1,1⟩] else (mG a).l
def mdR(a:MkI):Rtg:=bif decide ((mG a).l.length=0) then⟨[],[⟨0,0,1,1⟩]⟩ else⟨(mB a.s).b,(mL a.s).l⟩
def okMk(x:Ln):Prop:=(0<=x.a0/\x.a0<=39)/\(1<=x.b0-x.a0/\x.b0-x.a0<=60)/\(0<=x.a1/\x.a1<=59)/\0<=x.b1-x.a1/\x.b1-x.a1<=199
structure KB where
 k:Nat
 x:MB
 deriving Inhabited
structure KL where
 k:Nat
 x:ML
 deriving Inhabited
structure KG where
 k:Nat
 x:MG
 deriving Inhabited
structure KP where
 k:Nat
 x:MG
 t:Int
 p:Nat
 deriving Inhabited
def mdS(a:MkI):List (Nat×AVal):=[(0,.bptr 100 0),(1,.int a.m),(5,.bptr 1016 0),(6,.bptr 2000 0)]
def rtB(b l:AVal):HCell:=.live (.box [b,l])
def mdH(s:Stm)(b l:AVal):List (Nat×HCell):=[(100,stmH s),(1016,zRtg),(2000,rtB b l)]
def preM(a:MkI):Prop:=StmB 0 a.s/\1<=a.m/\a.m<=100
def X8(a:MkI)(y:KB):Prop:=y.k<=2/\StmB (3-y.k) y.x.s/\mkB y.k y.x=mB a.s/\(y.x.b.length:Int)+y.k<=2/\0<=y.x.a/\y.x.a<=60*(2-y.k)
def md4n(a:MkI):Shape:={ α:=KB,dflt:=default,T:=λy=>⟨mdS a ++ [(7,.int y.x.a),(8,.int y.k)],mdH y.x.s (.d TE) (.d TE)⟩,inv:=λy=>X8 a y/\y.x.b=[],meas:=λy=>y.k+1 }
def md4o(a:MkI):Shape:={ α:=KB,dflt:=default,T:=λy=>⟨mdS a ++ [(7,.int y.x.a),(8,.int y.k)],mdH y.x.s (.own 301 1 0 y.x.b.length) (.d TE) ++ [(301,.live (rowI y.x.b))]⟩,inv:=λy=>X8 a y,meas:=λy=>y.k,again:=[(301,8064)] }
def md8(a:MkI):Shape:={ α:=One,dflt:=default,T:=λ_=>⟨mdS a ++ [(7,.int (mB a.s).a)],mdH (mB a.s).s (.d (FE (mB a.s).b)) (.d TE)⟩,inv:=λ_=>X8 a ⟨0,mB a.s⟩,meas:=λ_=>0,ffz:=[301] }
def inv9(a:MkI)(y:KL):Prop:=X8 a ⟨0,mB a.s⟩/\y.k<=(mB a.s).b.length+1/\StmB (3+4*y.k) y.x.s/\mkL ((mB a.s).b.length+1-y.k) y.x=mL a.s/\y.x.l.length=y.k/\∀z∈y.x.l,okMk z
def md9S(a:MkI)(k:Nat):List (Nat×AVal):=mdS a ++ [(7,.int (mB a.s).a),(9,.int k)]
def md9n(a:MkI):Shape:={ α:=KL,dflt:=default,T:=λy=>⟨md9S a y.k,mdH y.x.s (.d (FE (mB a.s).b)) (.d TE)⟩,inv:=λy=>inv9 a y/\y.k=0,meas:=λy=>(mB a.s).b.length+3 }
def md9o(a:MkI):Shape:={ α:=KL,dflt:=default,T:=λy=>⟨md9S a y.k,mdH y.x.s (.d (FE (mB a.s).b)) (.own 302 4 0 y.x.l.length) ++ [(302,.live (rowL y.x.l))]⟩,inv:=λy=>inv9 a y,meas:=λy=>(mB a.s).b.length+1-y.k,again:=[(302,14064)] }
def mdHG(a:MkI)(s:Stm):List (Nat×HCell):=mdH s (.d (FE (mB a.s).b)) (.d (eLns (mL a.s).l))
def md14(a:MkI):Shape:={ α:=One,dflt:=default,T:=λ_=>⟨mdS a ++ [(7,.int (mB a.s).a)],mdHG a (mL a.s).s⟩,inv:=λ_=>inv9 a ⟨(mB a.s).b.length+1,mL a.s⟩,meas:=λ_=>0,ffz:=[302] }
def mdSG(a:MkI)(k:Nat)(v:AVal):List (Nat×AVal):=[(0,.bptr 100 0),(5,.bptr 1016 0),(6,.bptr 2000 0),(7,.int (mB a.s).a),(11,v),(12,.int k)]
def fin9(a:MkI):Prop:=inv9 a ⟨(mB a.s).b.length+1,mL a.s⟩
def mkGa(a:MkI)(k:Nat)(x:MG):MG:=mkG (mB a.s).b (mL a.s).l (hiG a) k x
def APD(a:MkI)(k:Nat)(x:MG):Prop:=fin9 a/\(k:Int)<=a.m/\StmB (16+3*(a.m-k)) x.s/\mkGa a k x=mG a/\(x.l.length:Int)+k<=a.m
def DTM(a:MkI):Shape:={ α:=KG,dflt:=default,T:=λy=>⟨mdSG a y.k (.d TE),mdHG a y.x.s⟩,inv:=λy=>APD a y.k y.x/\y.x.l=[],meas:=λy=>y.k,tag:=[0] }
def DTE(a:MkI):Shape:={ α:=KG,dflt:=default,T:=λy=>⟨mdSG a y.k (.own 303 3 0 y.x.l.length),mdHG a y.x.s ++ [(303,.live (rowG y.x.l))]⟩,inv:=λy=>APD a y.k y.x/\0<y.x.l.length,meas:=λy=>y.k,tag:=[1] }
def C3(a:MkI)(t:Int):Ln:=gD (mL a.s).l (ptM (mB a.s).b t)
def AOS(a:MkI)(m:Nat)(y:KP):Prop:=fin9 a/\y.k=m/\1<=y.k/\(y.k:Int)<=a.m/\StmB (17+3*(a.m-y.k)) y.x.s/\mkGa a (y.k-1) (Yx (C3 a y.t) y.x.s y.t y.x.l)=mG a/\(y.x.l.length:Int)+y.k<=a.m/\(0<=y.t/\y.t<=199)/\y.p<=(mB a.s).b.length/\ptM (mB a.s).b y.t=ptK (mB a.s).b y.t ((mB a.s).b.length-y.p) y.p
def gauB(t:Int):HCell:=.live (.box [.int t,.int 0,.int 0])
def DTN(a:MkI)(m:Nat):Shape:={ α:=KP,dflt:=default,T:=λy=>⟨mdSG a y.k (.d TE) ++ [(13,.bptr 204 0),(14,.int y.p)],mdHG a y.x.s ++ [(204,gauB y.t)]⟩,inv:=λy=>AOS a m y/\y.x.l=[],meas:=λy=>(mB a.s).b.length-y.p,first:=[(204,19080)] }
def DTV(a:MkI)(m:Nat):Shape:={ α:=KP,dflt:=default,T:=λy=>⟨mdSG a y.k (.own 303 3 0 y.x.l.length) ++ [(13,.bptr 204 0),(14,.int y.p)],mdHG a y.x.s ++ [(204,gauB y.t),(303,.live (rowG y.x.l))]⟩,inv:=λy=>AOS a m y/\0<y.x.l.length,meas:=λy=>(mB a.s).b.length-y.p,first:=[(204,19080)] }
def Z1(a:MkI)(m:Nat)(y:KG):Prop:=y.k=m/\1<=y.k/\APD a (y.k-1) y.x
def DTP(a:MkI)(m:Nat):Shape:={ α:=KG,dflt:=default,T:=λy=>⟨mdSG a y.k (.d TE),mdHG a y.x.s⟩,inv:=λy=>Z1 a m y/\y.x.l=[],meas:=λ_=>0 }
def DLF(a:MkI)(m:Nat)(f:List (Nat×Nat)):Shape:={ α:=KG,dflt:=default,T:=λy=>⟨mdSG a y.k (.own 303 3 0 y.x.l.length),mdHG a y.x.s ++ [(303,.live (rowG y.x.l))]⟩,inv:=λy=>Z1 a m y/\0<y.x.l.length,meas:=λ_=>0,first:=f }
def dMkI:List AVal->Heap->Option (MkI×List (Nat×Nat)×List Nat)
 |[.bptr p _,.d (.v (.int _ n))],H=>match CLV H p with
  |some s=>some (⟨s,n⟩,[(100,p)],[])
  |none=>none
 |_,_=>none
def C_Made:Ctr:={ α:=MkI,xs:=λa=>[.bptr 100 0,.int a.m],L:=λa=>[(100,stmO a.s)],val:=λa=>.tup [.d (KZ (mdG a)),.d (eRtg (mdR a))],keep:=λa=>[(100,stmH (mG a).s)],pre:=λa=>[preM a/\True] }
def DCB(a:MkI):Ann:={ ann 169 [(CBA,C_Next.spec CLQ),(BOS,C_Within.spec CGK)] with E:=[100],mt:=λid=>id==7||id==13||id==28,md:=λid=>if id=30 then some (λk=>if k=2 then 4 else 0) else if id=31 then some (λk=>if k=3 then 4 else 0) else none,loops:=λid=>if id=4 then some [md4n a,md4o a] else if id=9 then some [md9n a,md9o a] else if id=16 then some [DTM a,DTE a] else none,inner:=λgs id=>if id=20 then (if gs.getD 1 0=0 then some [DTN a (gs.getD 0 0)] else some [DTV a (gs.getD 0 0)]) else none,cut:=λid=>if id=8 then some [md8 a] else if id=14 then some [md14 a] else none,cutIn:=λgs id=>if id=17 then some [DTP a (gs.getD 0 0),DLF a (gs.getD 0 0) [(303,29048)],DLF a (gs.getD 0 0) []] else none }
def DFD(a:MkI):Prop:=BG Try.prog (DCB a) CLN (AL CLN) (C_Made.xs a) (AF (C_Made.L a)) (C_Made.val a) (C_Made.keep a) [] [303]
abbrev BBI:=λ(f:Ln->Prop)=>∀(x:Ln),f x
abbrev qQ:=MkI.s
abbrev CHK:=@Exists KB
abbrev Xy:=MkI.m
abbrev UV:=KB.k
abbrev CQN:=λ(f:KB->Prop)=>∀(x:KB),f x
abbrev CGE:=@Exists KL
abbrev TJ:=KL.k
abbrev CNV:=λ(f:KL->Prop)=>∀(x:KL),f x
abbrev AIS:=@Exists KG
abbrev MR:=KG.k
abbrev BKR:=λ(f:KG->Prop)=>∀(x:KG),f x
abbrev BWQ:=@Exists KP
abbrev QM:=KP.k
abbrev OU:=KP.p
abbrev JK:=KP.t
abbrev COM:=λ(f:KP->Prop)=>∀(x:KP),f x
abbrev KU a:=MG.s (KG.x a)
abbrev Vo a:=MG.s (mG a)
abbrev BXA a:=mL (qQ a)
abbrev CDZ a:=ML.l (BXA a)
abbrev BXH a b:=NK (CDZ a) b
abbrev kY a:=Ph (mdR a)
abbrev E1 a:=JY (CDZ a)
abbrev BTB a:=mB (qQ a)
abbrev WN a:=MB.b (BTB a)
abbrev FV a:=MG.l (KG.x a)
abbrev N5 a:=CW (FV a)
abbrev H7 a b:=CG a (FV b)
abbrev H5 a b c:=(@Eq MG) (mkGa a b c) (mG a)
abbrev D0 a b:=Rz a (Xy b)
abbrev Jw a b c d e f g h:=YB a (D0 b c) d (H5 e b (KG.x f)) (OP (HV (FV g)) (AU b)) (Xy h)
abbrev BYR a b c:=StmB (OP a b) c
abbrev CBY a b c:=Hy a (BWU b c)
abbrev S8 a b c d:=BYR a (CBY 3 (Xy b) c) d
abbrev vY a b c:=S8 16 a b (KU c)
abbrev ADJ a b c d e(f:Ln->Prop):=BB a b c d e (BBI f)
abbrev iO a b c:=BO ((@List.Mem Ln) a b) c
abbrev AHE a:=Nq (Sf (FC a) 39) (Wr (Kq (GD a) (FC a)) (DJ (Kq (GD a) (FC a)) 60)) (Sf (GF a) 59) (Kq (HB a) (GF a)) 199
abbrev BQR a b:=iO a (CDZ b) (AHE a)
abbrev BSD a b:=AR (E1 a) b
abbrev Cj a:=Dq (WN a)
abbrev BOM a:=BSD a (Cj a)
abbrev ALJ a b c:=(@Eq ML) (mkL a b) (BXA c)
abbrev BTY a:=ALJ (IS (Cj a) (Cj a)) (BXA a) a
abbrev AES a b:=BYR 3 (Hy 4 (AU a)) b
abbrev An a:=ML.s (BXA a)
abbrev BQU a:=AES (Cj a) (An a)
abbrev BPL a:=EA (Cj a) (Cj a)
abbrev BUB a b c d e f g:=Nq a b c d (CBY e f g)
abbrev AKA a b c d e f g h:=MW a b (BUB c d e f g h a)
abbrev ABW a:=MB.a (BTB a)
abbrev Vb a b c:=DJ (OP a (AU b)) c
abbrev mC a:=ER (WN a)
abbrev BRQ a:=Vb (mC a) 0 2
abbrev AJD a b c:=(@Eq MB) (mkB a b) (BTB c)
abbrev BOZ a:=AJD 0 (BTB a) a
abbrev ADC a b c:=StmB (BWU a b) c
abbrev Tc a:=MB.s (BTB a)
abbrev BSO a:=ADC 3 0 (Tc a)
abbrev oO a:=AKA 0 2 (BSO a) (BOZ a) (BRQ a) (ABW a) 60 2
abbrev VG a b c d e f:=ADJ (oO a) (BPL b) (BQU c) (BTY d) (BOM e) (λi=>BQR i f)
abbrev iV a:=AI (ABW a)
abbrev Q5 a b:=And (iV a) b
abbrev Vg a:=GU (WN a)
abbrev N0 a b:=AJP (Vg a) b
abbrev Sd a b c d:=Ot a (E1 b) (BXH c d)
abbrev Tj a:=BI (E1 a)
abbrev Da a:=GI (WN a)
abbrev oT a b:=VA (KU a) b
abbrev pU a b:=VC (KU a) b
abbrev kW a b:=Al (KU a) b
abbrev kU a b:=XM (KU a) b
abbrev qA a:=bG (MR a)
abbrev wW a b c:=vY a (qA b) c
abbrev vH a:=FW (MR a)
abbrev J6 a b:=AR a (MR b)
abbrev wQ a b:=J6 (MR a) b
abbrev lK a b c:=Yc (BKK a) b c
abbrev GX a:=MG.s (KP.x a)
abbrev Qd a:=Ve (GX a) 6
abbrev Zt a b:=BXH a (OU b)
abbrev Hp a b:=BHX (GD (Zt a b)) (Zt a b)
abbrev uZ a b:=GF (Zt a b)
abbrev IM a:=MG.l (KP.x a)
abbrev BYA a b c:=X9 (BKK a) b c
abbrev AHR a b:=BYA a 1 b
abbrev wL a:=AHR (Qd a) 6
abbrev AEZ a:=BC (ABF a)
abbrev lD a:=BN (WN a)
abbrev AJN a:=HV (IM a)
abbrev ABG a:=bG (QM a)
abbrev AFL a:=FW (QM a)
abbrev ATR a:=DK (ABW a) 80
abbrev wM a b:=Ve (KU a) (ATR b)
abbrev nH a:=AI (Xy a)
abbrev U9 a:=ML.l (KL.x a)
abbrev I9 a b:=NK (U9 a) b
abbrev Ao a:=JY (U9 a)
abbrev ZT a:=ML.s (KL.x a)
abbrev Pa a:=Mc (ZT a)
abbrev CNU a b:=CGY (Pa a) (ZT b) 40
abbrev Kb a:=CNU a a
abbrev Te a:=CHY (Kb a) (CNU a a) 60
abbrev Qq a:=AHR (Te a) 60
abbrev uU a:=Ve (Qq a) 200
abbrev VL a:=MB.b (KB.x a)
abbrev HQ a:=MB.s (KB.x a)
abbrev Nb a:=MB.a (KB.x a)
abbrev uC a:=BYA (HQ a) 5 60
attribute [go_sem] BBI qQ CHK Xy UV CQN CGE TJ CNV AIS MR BKR BWQ QM OU JK COM KU Vo BXA CDZ BXH kY E1 BTB WN FV N5 H7 H5 D0 Jw BYR CBY S8 vY ADJ iO AHE BQR BSD Cj BOM ALJ BTY AES An BQU BPL BUB AKA ABW Vb mC BRQ AJD BOZ ADC Tc BSO oO VG iV Q5 Vg N0 Sd Tj Da oT pU kW kU qA wW vH J6 wQ lK GX Qd Zt Hp uZ IM BYA AHR wL AEZ lD AJN ABG AFL ATR wM nH U9 I9 Ao ZT Pa CNU Kb Te Qq uU VL HQ Nb uC
theorem DHX(a:MkI):(DFD a)=(And (AY (BB (PI 3 3) (De (qQ a)) (Di (qQ a)) (YT (qQ a)) (ZD (qQ a)) (Nv (qQ a))) (CHK (λi=>AH (FT (nH a) (BE (Nb i)) (GV (UV i) (Re (qQ a) 3)) (XM (HQ i) (Ve (qQ a) 3)) (Al (HQ i) (Ve (qQ a) 3)) (VC (HQ i) (Ve (qQ a) 3)) (Om (VA (HQ i) (Ve (qQ a) 3)) (CFN BK AQ))) (AKA (UV i) 2 (ADC 3 (UV i) (HQ i)) (AJD (UV i) (KB.x i) a) (Vb (ER (VL i)) (UV i) 2) (Nb i) 60 2) (kO (VL i)))) (CQN (λi=>EC (And (AKA (UV i) 2 (ADC 3 (UV i) (HQ i)) (AJD (UV i) (KB.x i) a) (Vb (ER (VL i)) (UV i) 2) (Nb i) 60 2) (kO (VL i))) (Gb (AU (UV i))) (AH (DN 5 (UH 5) (PI 60 60) (AJ (De (HQ i)) (Di (HQ i)) (YT (HQ i)) (ZD (HQ i)) (Nv (HQ i)))) (gZ (El (LD 0)) 1 8) (CHK (λj=>CK (GT (nH a) (AO (Nb j) (DK (Nb i) (lK (HQ i) 5 60))) (xK (UV j) (UV i)) (XM (HQ j) (uC i)) (λk=>EN k (Mc (HQ j)) (Mc (uC i))) (VC (HQ j) (uC i)) (VA (HQ j) (uC i)) AQ (nI BK AQ (nO (mO (VL j)) AQ BK (AK (λk=>OB k (VL j) (DK (Nb i) (lK (HQ i) 5 60))))))) (AKA (UV j) 2 (ADC 3 (UV j) (HQ j)) (AJD (UV j) (KB.x j) a) (Vb (ER (VL j)) (UV j) 2) (Nb j) 60 2) (UV j) (JF (UV i))))) (ZY (λj=>QB (Es (nH a) (ABW a) (Nb i) (XM (Tc a) (HQ i)) (Al (Tc a) (HQ i)) (VC (Tc a) (HQ i)) (Om (VA (Tc a) (HQ i)) (Pm BK (Sq (WN a)) AQ BK))) 0 2 (BUB (BSO a) (BOZ a) (BRQ a) (ABW a) 60 2 0))))) (CQN (λi=>EC (AKA (UV i) 2 (ADC 3 (UV i) (HQ i)) (AJD (UV i) (KB.x i) a) (Vb (ER (VL i)) (UV i) 2) (Nb i) 60 2) (Gb (AU (UV i))) (AH (DN 5 (UH 5) (PI 60 60) (AJ (De (HQ i)) (Di (HQ i)) (YT (HQ i)) (ZD (HQ i)) (Nv (HQ i)))) (Do (And (GU (VL i)) (EZ 0 (VL i) (BI 1))) 1 (RV (Dq (VL i))) (Dq (VL i)) 8) (CHK (λj=>CK (GT (nH a) (AO (Nb j) (DK (Nb i) (lK (HQ i) 5 60))) (xK (UV j) (UV i)) (XM (HQ j) (uC i)) (λk=>EN k (Mc (HQ j)) (Mc (uC i))) (VC (HQ j) (uC i)) (VA (HQ j) (uC i)) AQ (nI BK AQ (nO (Jq (VL j) (Dq (VL i))) AQ BK (AK (λk=>OB k (VL j) (GJ k (BN (VL i)) (BJ (VL i) k) (DK (Nb i) (lK (HQ i) 5 60)))))))) (AKA (UV j) 2 (ADC 3 (UV j) (HQ j)) (AJD (UV j) (KB.x j) a) (Vb (ER (VL j)) (UV j) 2) (Nb j) 60 2) (UV j) (UV i)))) (ZY (λj=>QB (FT (nH a) (AO (ABW a) (Nb i)) (XM (Tc a) (HQ i)) (Al (Tc a) (HQ i)) (VC (Tc a) (HQ i)) (VA (Tc a) (HQ i)) (nI AQ BK (ZC (AW (WN a) (VL i)) (JU (BP (BN (VL i))) (VL i)) (λk=>FG k (WN a) (VL i) (BP k)) AQ BK))) 0 2 (BUB (BSO a) (BOZ a) (BRQ a) (ABW a) 60 2 0)))))) (Ru (oO a) (HG (CGE (λi=>AH (QL (Xy a) (ABW a) (AJ (BS (TJ i)) (E4 (Pa i) (Tc a)) (AWQ (Pa i) (Tc a)) (VC (ZT i) (Tc a)) (Om (VA (ZT i) (Tc a)) (AJ BK (Vg a) (Da a) AQ BK)))) (ADJ (oO a) (EA (TJ i) (Cj a)) (AES (TJ i) (ZT i)) (ALJ (IS (Cj a) (TJ i)) (KL.x i) a) (AR (Ao i) (TJ i)) (λj=>iO j (U9 i) (AHE j))) (Iv (TJ i)))) (CNV (λi=>EC (And (ADJ (oO a) (EA (TJ i) (Cj a)) (AES (TJ i) (ZT i)) (ALJ (IS (Cj a) (TJ i)) (KL.x i) a) (AR (Ao i) (TJ i)) (λj=>iO j (U9 i) (AHE j))) (Iv (TJ i))) (hd7 (AU (TJ i)) (mC a)) (AY (AY (PI 40 40) (OD (Pa i)) (QC (Pa i)) (AP (YT (ZT i)) (ZD (ZT i)) (AEZ (ZT i)) (PI 60 60) (De (Kb i)) (Di (Kb i)) (YT (Kb i)) (ZD (Kb i)) (Nv (Kb i)))) (AJ (PI 1 1) (PI 60 60) (De (Te i)) (Di (Te i)) (AP (YT (Te i)) (ZD (Te i)) (AEZ (Te i)) (PI 200 200) (De (Qq i)) (Di (Qq i)) (YT (Qq i)) (ZD (Qq i)) (Nv (Qq i)))) (Wl 4 4 32) (CGE (λj=>JO (GT (nH a) (iV a) (AV (TJ j) (TJ i)) (E4 (Pa j) (uU i)) (λk=>EN k (Pa j) (Mc (uU i))) (VC (ZT j) (uU i)) (VA (ZT j) (uU i)) AQ (N0 a (En (Da a) (LD (Ao j)) (λk=>Aq k (Ao j) (I9 j k) (rH (BBW (DG (Pa i)) (ZT i)) 40) (Re (Kb i) 60) (DK (rH (BBW (DG (Pa i)) (ZT i)) 40) (lK (Te i) 1 60)) (DK (Re (Kb i) 60) (Re (Qq i) 200)))))) (ADJ (oO a) (EA (TJ j) (Cj a)) (AES (TJ j) (ZT j)) (ALJ (IS (Cj a) (TJ j)) (KL.x j) a) (AR (Ao j) (TJ j)) (λk=>iO k (U9 j) (AHE k))) (Cj a) (TJ j) (SG (lD a) 3)))) (ZY (λj=>FT (BB (nH a) (iV a) (AW (Mc (An a)) (Pa i)) (AS (Mc (An a)) (Pa i)) (VC (An a) (ZT i)) (Om (VA (An a) (ZT i)) (xW BK (Vg a) (Da a) (BSD a 0)))) (oO a) (BPL a) (BQU a) (BTY a) (BOM a) (BBI (λk=>BQR k a)))))) (CNV (λi=>EC (ADJ (oO a) (EA (TJ i) (Cj a)) (AES (TJ i) (ZT i)) (ALJ (IS (Cj a) (TJ i)) (KL.x i) a) (AR (Ao i) (TJ i)) (λj=>iO j (U9 i) (AHE j))) (hd7 (AU (TJ i)) (mC a)) (AY (AY (PI 40 40) (OD (Pa i)) (QC (Pa i)) (AP (YT (ZT i)) (ZD (ZT i)) (AEZ (ZT i)) (PI 60 60) (De (Kb i)) (Di (Kb i)) (YT (Kb i)) (ZD (Kb i)) (Nv (Kb i)))) (AJ (PI 1 1) (PI 60 60) (De (Te i)) (Di (Te i)) (AP (YT (Te i)) (ZD (Te i)) (AEZ (Te i)) (PI 200 200) (De (Qq i)) (Di (Qq i)) (YT (Qq i)) (ZD (Qq i)) (Nv (Qq i)))) (Do (Mu (Ao i) 4) 4 (Ms (Ao i)) (JF (Ao i)) 32) (CGE (λj=>HR (GT (nH a) (iV a) (AV (TJ j) (TJ i)) (E4 (Pa j) (uU i)) (λk=>EN k (Pa j) (Mc (uU i))) (VC (ZT j) (uU i)) (VA (ZT j) (uU i)) AQ (N0 a (En (Da a) (Nz (Ao j) (Ao i)) (λk=>Aq k (Ao j) (I9 j k) (GJ k (Ao i) (FC (I9 i k)) (rH (BBW (DG (Pa i)) (ZT i)) 40)) (GJ k (Ao i) (GF (I9 i k)) (Re (Kb i) 60)) (GJ k (Ao i) (GD (I9 i k)) (DK (rH (BBW (DG (Pa i)) (ZT i)) 40) (lK (Te i) 1 60))) (GJ k (Ao i) (HB (I9 i k)) (DK (Re (Kb i) 60) (Re (Qq i) 200))))))) (ADJ (oO a) (EA (TJ j) (Cj a)) (AES (TJ j) (ZT j)) (ALJ (IS (Cj a) (TJ j)) (KL.x j) a) (AR (Ao j) (TJ j)) (λk=>iO k (U9 j) (AHE k))) (Cj a) (TJ j) (TJ i)))) (ZY (λj=>FT (QL (Xy a) (ABW a) (AJ (AW (Mc (An a)) (Pa i)) (AS (Mc (An a)) (Pa i)) (VC (An a) (ZT i)) (VA (An a) (ZT i)) (nI AQ BK (RY (Vg a) (Da a) (BSD a (Ao i)) (Hr (Ao i)) (λk=>JG k (E1 a) (BXH a k) (I9 i (BP k))))))) (oO a) (BPL a) (BQU a) (BTY a) (BOM a) (BBI (λk=>BQR k a)))))) (Ru (VG a a a a a a) (AY (DN 1 (UH 1) (nH a) (AJ (De (An a)) (Di (An a)) (YT (An a)) (ZD (An a)) (Nv (An a)))) (AIS (λi=>cP (HX (iV a) AQ BK (GV (MR i) (lK (An a) 1 (Xy a))) (kU i (AHR (An a) (Xy a))) (kW i (AHR (An a) (Xy a))) (pU i (AHR (An a) (Xy a))) (Om (oT i (AHR (An a) (Xy a))) (RY BK (Vg a) (Da a) (Tj a) (λj=>Sd j a a j)))) (Jw (VG a a a a a a) (MR i) a (vY a (MR i) i) a i i a) (FV i))) (BKR (λi=>EC (And (Jw (VG a a a a a a) (MR i) a (vY a (MR i) i) a i i a) (YP (FV i))) (Gb (AU (MR i))) (HG (BB (AI (ATR a)) (De (KU i)) (Di (KU i)) (YT (KU i)) (ZD (KU i)) (Nv (KU i))) (BWQ (λj=>cP (HX (iV a) AQ BK (CN (QM j) (MR i)) (BS (OU j)) (XM (GX j) (wM i a)) (Al (GX j) (wM i a)) (zX (VC (GX j) (wM i a)) (VA (GX j) (wM i a)) AQ BK AQ (Vg a) (Da a) (xW (Tj a) (AK (λk=>Sd k a a k)) (AO (JK j) (Re (KU i) (ATR a))) CL))) (And (VG a a a a a a) (AP (J6 (QM j) i) (AFL j) (D0 (QM j) a) (S8 17 a (QM j) (GX j)) (H5 a (ABG j) (Yx (C3 a (JK j)) (GX j) (JK j) (IM j))) (Vb (AJN j) (QM j) (Xy a)) (Sf (JK j) 199) (JU (OU j) (WN a)) (AR (ptM (WN a) (JK j)) (ptK (WN a) (JK j) (IS (lD a) (OU j)) (OU j))))) (IM j))) (COM (λj=>BO (NO (VG a a a a a a) (AP (J6 (QM j) i) (AFL j) (D0 (QM j) a) (S8 17 a (QM j) (GX j)) (H5 a (ABG j) (Yx (C3 a (JK j)) (GX j) (JK j) (IM j))) (Vb (AJN j) (QM j) (Xy a)) (Sf (JK j) 199) (JU (OU j) (WN a)) (AR (ptM (WN a) (JK j)) (ptK (WN a) (JK j) (IS (lD a) (OU j)) (OU j)))) (YP (IM j))) (BF (ABR (AU (OU j)) (mC a) (ES (OU j) (mC a))) (HJ (JD (AU (OU j)) (mC a)) (hd7 (BJ (WN a) (OU j)) (JK j))) (BWQ (λk=>HR (HX (iV a) AQ BK (CN (QM k) (QM j)) (AV (OU k) (OU j)) (XM (GX k) (GX j)) (Al (GX k) (GX j)) (zX (VC (GX k) (GX j)) (VA (GX k) (GX j)) AQ BK AQ (Vg a) (Da a) (xW (Tj a) (AK (λl=>Sd l a a l)) (AO (JK k) (JK j)) CL))) (NO (VG a a a a a a) (AP (J6 (QM k) i) (AFL k) (D0 (QM k) a) (S8 17 a (QM k) (GX k)) (H5 a (ABG k) (Yx (C3 a (JK k)) (GX k) (JK k) (IM k))) (Vb (AJN k) (QM k) (Xy a)) (Sf (JK k) 199) (JU (OU k) (WN a)) (AR (ptM (WN a) (JK k)) (ptK (WN a) (JK k) (IS (lD a) (OU k)) (OU k)))) (YP (IM k))) (lD a) (OU k) (OU j))) (BF (DU (OU j) (E1 a)) (OK (Ga (Qk (uZ a j) (Hp a j) (Zt a j) (JK j))) (Pp (Qk (uZ a j) (Hp a j) (Zt a j) (JK j)) (PW 1000 (Hp a j)))) (AIS (λk=>cP (HX (iV a) AQ BK (CN (MR k) (QM j)) (kU k (GX j)) (kW k (GX j)) (pU k (GX j)) (Om (oT k (GX j)) (RY BK (Vg a) (Da a) (Tj a) (λl=>Sd l a a l)))) (AH (wQ k i) (vH k) (Jw (VG a a a a a a) (qA k) a (wW a k k) a k k a)) (FV k))) (AY (Nn (Hp a j)) (AJ (PI 6 6) (De (GX j)) (Di (GX j)) (YT (GX j)) (AP (ZD (GX j)) (AEZ (GX j)) (PI 1 1) (PI 6 6) (De (Qd j)) (Di (Qd j)) (YT (Qd j)) (ZD (Qd j)) (Nv (Qd j)))) (Wl 3 3 24) (AIS (λk=>CK (Q5 a (yL AQ (HY (FV k) 1) (CN (MR k) (QM j)) (kU k (wL j)) (kW k (wL j)) (pU k (wL j)) (oT k (wL j)) (N0 a (RY (Da a) (Tj a) (AK (λl=>Sd l a a l)) (HY (FV k) 1) (λl=>Vj l (FV k) l (JK j) (zZ 0 (LI (aE (Qk (uZ a j) (Hp a j) (Zt a j) (JK j)) (Hp a j)) (Re (GX j) 6))) (DK (aE (Qk (uZ a j) (Hp a j) (Zt a j) (JK j)) (Hp a j)) (lK (Qd j) 1 6))))))) (AH (wQ k i) (vH k) (Jw (VG a a a a a a) (qA k) a (wW a k k) a k k a)) 0 (N5 k)))))))) (It (BKR (λj=>BO (HG (wQ j i) (vH j) (Jw (VG a a a a a a) (qA j) a (wW a j j) a j j a) (YP (FV j))) (AIS (λk=>CK (HX (iV a) AQ BK (xK (MR k) (MR j)) (kU k (KU j)) (kW k (KU j)) (pU k (KU j)) (Om (oT k (KU j)) (RY BK (Vg a) (Da a) (Tj a) (λl=>Sd l a a l)))) (And (Jw (VG a a a a a a) (MR k) a (vY a (MR k) k) a k k a) (YP (FV k))) (MR k) (MR i))))) (BKR (λj=>BO (HG (wQ j i) (vH j) (Jw (VG a a a a a a) (qA j) a (wW a j j) a j j a) (lL (FV j))) (AIS (λk=>CK (Q5 a (yL AQ (H7 (FV k) j) (xK (MR k) (MR j)) (kU k (KU j)) (kW k (KU j)) (pU k (KU j)) (oT k (KU j)) (N0 a (ZC (Da a) (Tj a) (λl=>Sd l a a l) (H7 (FV k) j) (AT (FV k) (FV j)))))) (And (Jw (VG a a a a a a) (MR k) a (vY a (MR k) k) a k k a) (lL (FV k))) (MR k) (MR i))))))) (AH (Ov (Hg 3) (Xl FI 3) Fp Hf 24) (HY (mdG a) 1) (Pm (AK (λj=>Vj j (mdG a) j 1 1 1)) (Sq (Ly (mdR a))) (LD (kY a)) (AJ (AK (λj=>Aq j (kY a) (Cd (mdR a) j) 0 0 1 1)) (XM (Vo a) (KU i)) (Al (Vo a) (KU i)) (VC (Vo a) (KU i)) (VA (Vo a) (KU i))))))) (BKR (λi=>EC (And (Jw (VG a a a a a a) (MR i) a (vY a (MR i) i) a i i a) (lL (FV i))) (Gb (AU (MR i))) (HG (BB (AI (ATR a)) (De (KU i)) (Di (KU i)) (YT (KU i)) (ZD (KU i)) (Nv (KU i))) (BWQ (λj=>CK (Q5 a (AP AQ (H7 (IM j) i) (CN (QM j) (MR i)) (BS (OU j)) (XM (GX j) (wM i a)) (Al (GX j) (wM i a)) (VC (GX j) (wM i a)) (VA (GX j) (wM i a)) (nI AQ BK (AJ (Vg a) (Da a) (Tj a) (AK (λk=>Sd k a a k)) (Pm (AO (JK j) (Re (KU i) (ATR a))) CL (H7 (IM j) i) (AT (IM j) (FV i))))))) (And (VG a a a a a a) (AP (J6 (QM j) i) (AFL j) (D0 (QM j) a) (S8 17 a (QM j) (GX j)) (H5 a (ABG j) (Yx (C3 a (JK j)) (GX j) (JK j) (IM j))) (Vb (AJN j) (QM j) (Xy a)) (Sf (JK j) 199) (JU (OU j) (WN a)) (AR (ptM (WN a) (JK j)) (ptK (WN a) (JK j) (IS (lD a) (OU j)) (OU j))))) 0 (CW (IM j)))) (COM (λj=>BO (NO (VG a a a a a a) (AP (J6 (QM j) i) (AFL j) (D0 (QM j) a) (S8 17 a (QM j) (GX j)) (H5 a (ABG j) (Yx (C3 a (JK j)) (GX j) (JK j) (IM j))) (Vb (AJN j) (QM j) (Xy a)) (Sf (JK j) 199) (JU (OU j) (WN a)) (AR (ptM (WN a) (JK j)) (ptK (WN a) (JK j) (IS (lD a) (OU j)) (OU j)))) (lL (IM j))) (BF (ABR (AU (OU j)) (mC a) (ES (OU j) (mC a))) (HJ (JD (AU (OU j)) (mC a)) (hd7 (BJ (WN a) (OU j)) (JK j))) (BWQ (λk=>HR (Q5 a (AP AQ (CG (IM k) (IM j)) (CN (QM k) (QM j)) (AV (OU k) (OU j)) (XM (GX k) (GX j)) (Al (GX k) (GX j)) (VC (GX k) (GX j)) (VA (GX k) (GX j)) (nI AQ BK (AJ (Vg a) (Da a) (Tj a) (AK (λl=>Sd l a a l)) (Pm (AO (JK k) (JK j)) CL (CG (IM k) (IM j)) (AT (IM k) (IM j))))))) (NO (VG a a a a a a) (AP (J6 (QM k) i) (AFL k) (D0 (QM k) a) (S8 17 a (QM k) (GX k)) (H5 a (ABG k) (Yx (C3 a (JK k)) (GX k) (JK k) (IM k))) (Vb (AJN k) (QM k) (Xy a)) (Sf (JK k) 199) (JU (OU k) (WN a)) (AR (ptM (WN a) (JK k)) (ptK (WN a) (JK k) (IS (lD a) (OU k)) (OU k)))) (lL (IM k))) (lD a) (OU k) (OU j))) (BF (DU (OU j) (E1 a)) (OK (Ga (Qk (uZ a j) (Hp a j) (Zt a j) (JK j))) (Pp (Qk (uZ a j) (Hp a j) (Zt a j) (JK j)) (PW 1000 (Hp a j)))) (AIS (λk=>CK (Q5 a (yL AQ (CG (FV k) (IM j)) (CN (MR k) (QM j)) (kU k (GX j)) (kW k (GX j)) (pU k (GX j)) (oT k (GX j)) (N0 a (ZC (Da a) (Tj a) (λl=>Sd l a a l) (CG (FV k) (IM j)) (AT (FV k) (IM j)))))) (AH (wQ k i) (vH k) (Jw (VG a a a a a a) (qA k) a (wW a k k) a k k a)) 0 (N5 k))) (AY (Nn (Hp a j)) (AJ (PI 6 6) (De (GX j)) (Di (GX j)) (YT (GX j)) (AP (ZD (GX j)) (AEZ (GX j)) (PI 1 1) (PI 6 6) (De (Qd j)) (Di (Qd j)) (YT (Qd j)) (ZD (Qd j)) (Nv (Qd j)))) (Do (And (BY (IM j)) (GQ 0 (IM j) hZ)) 3 (RV (Fb (IM j))) (Fb (IM j)) 24) (AIS (λk=>CK (Q5 a (yL AQ (HY (FV k) (Fb (IM j))) (CN (MR k) (QM j)) (kU k (wL j)) (kW k (wL j)) (pU k (wL j)) (oT k (wL j)) (N0 a (RY (Da a) (Tj a) (AK (λl=>Sd l a a l)) (HY (FV k) (Fb (IM j))) (λl=>Vj l (FV k) l (GJ l (CW (IM j)) (DI (IM j) l) (JK j)) (GJ l (CW (IM j)) (DZ (IM j) l) (zZ 0 (LI (aE (Qk (uZ a j) (Hp a j) (Zt a j) (JK j)) (Hp a j)) (Re (GX j) 6)))) (GJ l (CW (IM j)) (DY (IM j) l) (DK (aE (Qk (uZ a j) (Hp a j) (Zt a j) (JK j)) (Hp a j)) (lK (Qd j) 1 6)))))))) (AH (wQ k i) (vH k) (Jw (VG a a a a a a) (qA k) a (wW a k k) a k k a)) 0 (N5 k)))))))) (It (BKR (λj=>BO (HG (wQ j i) (vH j) (Jw (VG a a a a a a) (qA j) a (wW a j j) a j j a) (YP (FV j))) (AIS (λk=>CK (HX (iV a) AQ BK (xK (MR k) (MR j)) (kU k (KU j)) (kW k (KU j)) (pU k (KU j)) (Om (oT k (KU j)) (RY BK (Vg a) (Da a) (Tj a) (λl=>Sd l a a l)))) (And (Jw (VG a a a a a a) (MR k) a (vY a (MR k) k) a k k a) (YP (FV k))) (MR k) (MR i))))) (BKR (λj=>BO (HG (wQ j i) (vH j) (Jw (VG a a a a a a) (qA j) a (wW a j j) a j j a) (lL (FV j))) (AIS (λk=>CK (Q5 a (yL AQ (H7 (FV k) j) (xK (MR k) (MR j)) (kU k (KU j)) (kW k (KU j)) (pU k (KU j)) (oT k (KU j)) (N0 a (ZC (Da a) (Tj a) (λl=>Sd l a a l) (H7 (FV k) j) (AT (FV k) (FV j)))))) (And (Jw (VG a a a a a a) (MR k) a (vY a (MR k) k) a k k a) (lL (FV k))) (MR k) (MR i))))))) (DV (GA (HV (FV i))) (AH (Ov (And (BY (FV i)) (GQ 0 (FV i) hZ)) (Xl FI 3) Fp (RV (Fb (FV i))) (Me (Fb (FV i)) 24)) (HY (mdG a) (Fb (FV i))) (Pm (AK (λj=>Vj j (mdG a) j (GJ j (N5 i) (DI (FV i) j) 1) (GJ j (N5 i) (DZ (FV i) j) 1) (GJ j (N5 i) (DY (FV i) j) 1))) (Sq (Ly (mdR a))) (LD (kY a)) (AJ (AK (λj=>Aq j (kY a) (Cd (mdR a) j) 0 0 1 1)) (XM (Vo a) (KU i)) (Al (Vo a) (KU i)) (VC (Vo a) (KU i)) (VA (Vo a) (KU i))))) (AH (H7 (mdG a) i) (KQ (BP (N5 i)) (FV i)) (GT (AK (λj=>Jg j (mdG a) (DI (FV i) (BP j)) (FV i) (BP j))) (AW (Ly (mdR a)) (WN a)) (AS (Ly (mdR a)) (WN a)) (AR (kY a) (E1 a)) (λj=>JG j (kY a) (Cd (mdR a) j) (BXH a j)) (XM (Vo a) (KU i)) (Al (Vo a) (KU i)) (VC (Vo a) (KU i)) (VA (Vo a) (KU i)))))))))))):=by kernel_rfl
theorem DFW(s:Stm):Stm.mk s.bs s.used s.mix=s:=rfl
theorem Uy{K:Int}{s:Stm}(h:StmB K s)(hK:K<=1000000000000000)(lo hi:Int):StmB (K+1) (X9 s lo hi):=h.next hK _
theorem CIS{a:MkI}{y:KB}(h:X8 a y)(hk:0<y.k):X8 a ⟨y.k-1,stpB y.x⟩:=by
 obtain⟨h1,h2,h3,h4,h5,h6⟩:=h
 have hw:=AML h2 (by omega) (lo:=5) (hi:=60) (by omega) (by omega) (by omega)
 have ha:wr (y.x.a+Yc y.x.s 5 60)=y.x.a+Yc y.x.s 5 60:=JC (by omega) (by omega)
 refine⟨by show y.k-1<=2;omega,?_,?_,?_,?_,?_⟩
 ·have:=Uy h2 (by omega) 5 60
  exact this.mono (by show _<=3-((y.k-1:Nat):Int);omega)
 ·obtain⟨k,hk2⟩:∃k,y.k=k+1:=⟨y.k-1,by omega⟩
  rw[hk2] at h3 ⊢;exact h3
 ·show (((y.x.b ++ [_]).length:Nat):Int)+((y.k-1:Nat):Int)<=2
  rw[List.length_append,List.length_singleton];omega
 ·show 0<=wr _;rw[ha];omega
 ·show wr _<=60*(2-((y.k-1:Nat):Int));rw[ha];omega
theorem DFC{a:MkI}{y:KB}(h:X8 a y)(hk:¬0<y.k):y.x=mB a.s/\X8 a ⟨0,mB a.s⟩:=by
 obtain⟨k,x⟩:=y
 have hk:k=0:=by have:¬0<k:=hk;omega
 subst hk
 have e:x=mB a.s:=h.2.2.1
 exact⟨e,e ▸ h⟩
theorem DIZ{K:Int}{s:Stm}(h:StmB K s)(hK:K<=100000):okMk (mkLn s)/\StmB (K+4) (lnS4 s):=by
 have h1:=h.next (by omega) 40
 have h2:=h1.next (by omega) 60
 have h3:=Uy h2 (by omega) 1 60
 have h4:=h3.next (by omega) 200
 have v1:=Vt h (by omega) 40
 have v2:=Vt h1 (by omega) 60
 have v3:=AML h2 (by omega) (lo:=1) (hi:=60) (by omega) (by omega) (by omega)
 have v4:=Vt h3 (by omega) 200
 have a1:=v1.2 (by omega)
 have a2:=v2.2 (by omega)
 have a4:=v4.2 (by omega)
 have e1:wr (FD s 40+Yc (lnS2 s) 1 60)=FD s 40+Yc (lnS2 s) 1 60:=by unfold lnS2 lnS1;exact JC (by omega) (by omega)
 have e2:wr (FD (lnS1 s) 60+FD (lnS3 s) 200)=FD (lnS1 s) 60+FD (lnS3 s) 200:=by unfold lnS3 lnS2 lnS1;exact JC (by omega) (by omega)
 refine⟨?_,h4.mono (by omega)⟩
 unfold okMk mkLn
 simp only[e1,e2]
 unfold lnS3 lnS2 lnS1
 omega
theorem CMM{a:MkI}{y:KL}(h:inv9 a y)(hk:y.k<=(mB a.s).b.length):inv9 a ⟨y.k+1,stpL y.x⟩:=by
 obtain⟨h0,h1,h2,h3,h4,h5⟩:=h
 have hb:((mB a.s).b.length:Int)<=2:=by have:(((mB a.s).b.length:Nat):Int)+((0:Nat):Int)<=2:=h0.2.2.2.1;omega
 obtain⟨o1,o2⟩:=DIZ h2 (by omega)
 refine⟨h0,by show y.k+1<=_;omega,o2.mono (by show _<=3+4*((y.k+1:Nat):Int);omega),?_,?_,?_⟩
 ·obtain⟨n,hn⟩:∃n,(mB a.s).b.length+1-y.k=n+1:=⟨(mB a.s).b.length-y.k,by omega⟩
  rw[hn] at h3
  show mkL ((mB a.s).b.length+1-(y.k+1)) (stpL y.x)=_
  rw[show (mB a.s).b.length+1-(y.k+1)=n by omega];exact h3
 ·show (y.x.l ++ [_]).length=y.k+1;rw[List.length_append,h4];rfl
 ·intro z hz
  rcases List.mem_append.1 hz with hz | hz
  ·exact h5 z hz
  ·rw[List.mem_singleton.1 hz];exact o1
theorem DLV{a:MkI}{y:KL}(h:inv9 a y)(hk:¬y.k<=(mB a.s).b.length):y.x=mL a.s/\fin9 a:=by
 obtain⟨k,x⟩:=y
 have hk1:k<=(mB a.s).b.length+1:=h.2.1
 have hk:k=(mB a.s).b.length+1:=by have:¬k<=(mB a.s).b.length:=hk;omega
 subst hk
 have e:x=mL a.s:=by
  have:=h.2.2.2.1
  rw[show (mB a.s).b.length+1-((mB a.s).b.length+1)=0 by omega] at this;exact this
 exact⟨e,show inv9 a ⟨_,mL a.s⟩ from e ▸ h⟩
theorem BZZ{b:List Int}{t:Int}:∀(n k:Nat),k<=ptK b t n k/\ptK b t n k<=k+n
 |0,k=>⟨Nat.le_refl _,Nat.le_refl _⟩
 |n+1,k=>by
  unfold ptK
  cases decide (gD b k<=t)
  ·exact⟨Nat.le_refl _,by show k<=_;omega⟩
  ·have:=BZZ (b:=b) (t:=t) n (k+1);show k<=ptK b t n (k+1)/\ptK b t n (k+1)<=_;omega
theorem CYF{b:List Int}{t:Int}{p:Nat}(h:(bif decide (p<b.length) then decide (gD b p<=t) else false)=true):p<b.length/\ptK b t (b.length-p) p=ptK b t (b.length-(p+1)) (p+1):=by
 cases hd:decide (p<b.length) with
 |false=>rw[hd] at h;cases h
 |true=>
  rw[hd] at h
  have hp:=of_decide_eq_true hd
  refine⟨hp,?_⟩
  obtain⟨n,hn⟩:∃n,b.length-p=n+1:=⟨b.length-p-1,by omega⟩
  rw[hn,show b.length-(p+1)=n by omega]
  conv=>lhs;unfold ptK
  rw[show decide (gD b p<=t)=true from h];rfl
theorem DFL{b:List Int}{t:Int}{p:Nat}(h:(bif decide (p<b.length) then decide (gD b p<=t) else false)=false)(hp:p<=b.length):ptK b t (b.length-p) p=p:=by
 cases hd:decide (p<b.length) with
 |false=>rw[show b.length-p=0 by have:=of_decide_eq_false hd;omega];rfl
 |true=>
  rw[hd] at h
  have hp:=of_decide_eq_true hd
  obtain⟨n,hn⟩:∃n,b.length-p=n+1:=⟨b.length-p-1,by omega⟩
  rw[hn];unfold ptK;rw[show decide (gD b p<=t)=false from h];rfl
theorem BWA{a:MkI}(h:fin9 a):((mB a.s).b.length:Int)<=2/\(0<=(mB a.s).a/\(mB a.s).a<=120)/\(mL a.s).l.length=(mB a.s).b.length+1/\(∀z∈(mL a.s).l,okMk z)/\StmB 15 (mL a.s).s:=by
 obtain⟨h0,h1,h2,h3,h4,h5⟩:=h
 have hb:(((mB a.s).b.length:Nat):Int)+((0:Nat):Int)<=2:=h0.2.2.2.1
 have h6:0<=(mB a.s).a:=h0.2.2.2.2.1
 have h7:(mB a.s).a<=60*(2-((0:Nat):Int)):=h0.2.2.2.2.2
 exact⟨by omega,⟨h6,by omega⟩,h4,h5,h2.mono (by show 3+4*(((mB a.s).b.length+1:Nat):Int)<=15;omega)⟩
theorem CLL{a:MkI}(h:fin9 a):hiG a=(mB a.s).a+80:=by
 obtain⟨_,h2,_⟩:=BWA h
 exact JC (by omega) (by omega)
theorem G_in{a:MkI}{k:Nat}{x:MG}(h:APD a k x)(hm:a.m<=100)(hk:0<k):AOS a k ⟨k,⟨NM x.s (hiG a),x.l⟩,FD x.s (hiG a),0⟩:=by
 obtain⟨h0,h1,h2,h3,h4⟩:=h
 have hv:=Vt h2 (by omega) (hiG a)
 obtain⟨_,h6,_⟩:=BWA h0
 rw[CLL h0] at hv
 have:=hv.2 (by omega)
 refine⟨h0,rfl,hk,h1,(h2.next (by omega) _).mono (by show _<=17+3*(a.m-(k:Int));omega),?_,h4,?_,Nat.zero_le _,rfl⟩
 ·obtain⟨n,hn⟩:∃n,k=n+1:=⟨k-1,by omega⟩
  subst hn;exact h3
 ·rw[CLL h0];exact⟨hv.1,by show FD x.s ((mB a.s).a+80)<=199;omega⟩
theorem BRZ{x:Ln}{t:Int}(h:okMk x)(ht:0<=t/\t<=199):wdG x=x.b0-x.a0/\X0 x t=x.a1*(x.b0-x.a0)+(x.b1-x.a1)*(t-x.a0)/\wr (1000*wdG x)=1000*wdG x /\ -100000<=X0 x t/\X0 x t<=100000:=by
 obtain⟨h1,h2,h3,h4⟩:=h
 have m1:0<=x.a1*(x.b0-x.a0):=Int.mul_nonneg (by omega) (by omega)
 have m2:x.a1*(x.b0-x.a0)<=59*60:=Int.mul_le_mul (by omega) (by omega) (by omega) (by omega)
 have m3:(x.b1-x.a1)*(t-x.a0)<=199*199:=Int.le_trans (Int.mul_le_mul_of_nonneg_left (show t-x.a0<=199 by omega) (by omega)) (Int.mul_le_mul_of_nonneg_right (by omega) (by omega))
 have m4:-(199*39)<=(x.b1-x.a1)*(t-x.a0):=by
  have e1:=Int.mul_le_mul_of_nonneg_left (show -39<=t-x.a0 by omega) (show 0<=x.b1-x.a1 by omega)
  have e2:=Int.mul_le_mul_of_nonneg_right (show x.b1-x.a1<=199 by omega) (show (0:Int)<=39 by omega)
  rw[Int.mul_neg] at e1
  omega
 have w1:wr (x.b0-x.a0)=x.b0-x.a0:=JC (by omega) (by omega)
 have w2:wr (x.a1*(x.b0-x.a0))=x.a1*(x.b0-x.a0):=JC (by omega) (by omega)
 have w3:wr (x.b1-x.a1)=x.b1-x.a1:=JC (by omega) (by omega)
 have w4:wr (t-x.a0)=t-x.a0:=JC (by omega) (by omega)
 have w5:wr ((x.b1-x.a1)*(t-x.a0))=(x.b1-x.a1)*(t-x.a0):=JC (by omega) (by omega)
 have w6:wr (x.a1*(x.b0-x.a0)+(x.b1-x.a1)*(t-x.a0))=x.a1*(x.b0-x.a0)+(x.b1-x.a1)*(t-x.a0):=JC (by omega) (by omega)
 have e1:wdG x=x.b0-x.a0:=w1
 have e2:X0 x t=x.a1*(x.b0-x.a0)+(x.b1-x.a1)*(t-x.a0):=by unfold X0;rw[w1,w2,w3,w4,w5,w6]
 refine⟨e1,e2,?_,by omega,by omega⟩
 rw[e1];exact JC (by omega) (by omega)
theorem DOD{a:MkI}{m:Nat}{y:KP}(h:AOS a m y)(hm:a.m<=100):Z1 a m ⟨y.k,Yx (C3 a y.t) y.x.s y.t y.x.l⟩:=by
 obtain⟨h0,h1,h2,h3,h4,h5,h6,h7,h8,h9⟩:=h
 have hs:=h4.next (by omega) 6
 have hs2:=Uy hs (by omega) 1 6
 refine⟨h1,h2,h0,by show ((y.k-1:Nat):Int)<=_;omega,?_,h5,?_⟩
 ·show StmB (16+3*(a.m-((y.k-1:Nat):Int))) (Yx _ _ _ _).s
  unfold Yx
  cases (bif decide (X0 (C3 a y.t) y.t<0) then true else decide (X0 (C3 a y.t) y.t>wr (1000*wdG (C3 a y.t))))
  ·exact hs2.mono (by omega)
  ·exact h4.mono (by omega)
 ·show (((Yx _ _ _ _).l.length:Nat):Int)+((y.k-1:Nat):Int)<=a.m
  unfold Yx
  cases (bif decide (X0 (C3 a y.t) y.t<0) then true else decide (X0 (C3 a y.t) y.t>wr (1000*wdG (C3 a y.t))))
  ·show (((y.x.l ++ [_]).length:Nat):Int)+_<=_
   rw[List.length_append,List.length_singleton];omega
  ·show ((y.x.l.length:Nat):Int)+_<=_;omega
theorem G_up{a:MkI}{m:Nat}{y:KP}(h:AOS a m y)(hp:(bif decide (y.p<(mB a.s).b.length) then decide (gD (mB a.s).b y.p<=y.t) else false)=true):AOS a m ⟨y.k,y.x,y.t,y.p+1⟩:=by
 obtain⟨h0,h1,h2,h3,h4,h5,h6,h7,h8,h9⟩:=h
 obtain⟨p1,p2⟩:=CYF hp
 exact⟨h0,h1,h2,h3,h4,h5,h6,h7,p1,h9.trans p2⟩
theorem G_at{a:MkI}{m:Nat}{y:KP}(h:AOS a m y)(hp:(bif decide (y.p<(mB a.s).b.length) then decide (gD (mB a.s).b y.p<=y.t) else false)=false):C3 a y.t=gD (mL a.s).l y.p/\y.p<(mL a.s).l.length:=by
 obtain⟨h0,h1,h2,h3,h4,h5,h6,h7,h8,h9⟩:=h
 obtain⟨_,_,g3,_⟩:=BWA h0
 exact⟨by unfold C3;rw[h9.trans (DFL hp h8)],by omega⟩
theorem DAY{a:MkI}{m:Nat}{y:KP}(h:AOS a m y):okMk (C3 a y.t):=by
 obtain⟨h0,h1,h2,h3,h4,h5,h6,h7,h8,h9⟩:=h
 obtain⟨_,_,g3,g4,_⟩:=BWA h0
 have:=BZZ (b:=(mB a.s).b) (t:=y.t) (mB a.s).b.length 0
 unfold C3
 exact g4 _ (HI (by rw[g3];unfold ptM;omega))
theorem DQL(a:MkI)(h:preM a):DFD a:=by
 rw[DHX]<;> delta JB hd5 hd7 Oz NE Kq AR AK BO CI AO AU UH EA DV JD DJ DX OP zZ IS FI Cu QJ Pp SG PS Pg BN BJ JN Hy ZY Ip Me tC EY GW FC GF GD HB CW FX JY NK Ly qW BBI BLB yI Mc rH ABF BDQ ACM qQ CHK Xy UV CQN CGE TJ CNV AIS MR BKR BWQ QM OU JK COM AH LY ZT LX AJ Pa AZ EV AI DG BBW It BI FJ pE Ws nI nO CFN Pm BBF xW DK AP DI DY LI BTB BZ ED BC DZ EZ CGY zX yL xR BXA DN GQ Cd JA WN JF HE ER ID HC EU AW QL CDZ Dh HY AQ BP GX GT YB GY BWJ HL UW GU AY Ph CHY CG KU BXH BWU ABW GV IA CNU Gk Dq BY BB CK JZ HV KC Cj FV VQ DR BKK CE Ve Kb FG OB EN KJ GH Mm MW Ce EC AV Zt AS BK Rv BF ES FU FA CBY E1 GC KQ HQ Nq Sf Vj MC GM Jg BE PW VF FW BYR JO E4 CN IM An Tc bG GJ BYA AWQ U9 mC GI CR HJ NT Wr Ji AT Vb ADC BHX ZI Bo qA CL AJD UQ Fb BUB BS HR Te DU P1 iO P4 Rz Xl AHR HG VA Ov cO XM RY Jr ALJ VC MK BSD Al Ot AKA BOZ Ha BSO BRQ JU LD PI BPL GA ADJ VL U2 Ao FT D0 AES YP Ow Qd Qq BOM Aq BTY AHE Jq ZD Ht HX NO YT Da RV Fp Vg Je BHK OD Di BQU BQR H5 Om oO El iV Hf OK Hp JG De uZ Nb S8 VG Ir BJI Tj J6 Gb QB QC Nn Vo Hg Re Nv vY Sd Nz Hr Ms AVK ATR Iv uN ZC ABR En nH lD Sq Ga kW aE Ru vH kY pU cP lK Qk Mu kU wQ oT N5 Do wL lL kO AJP gZ wM uU wW Jw Wl N0 xK H7 I9 ABG Q5 mO AFL AJN AEZ hZ Es uC;simp only[CC,eq_self,implies_true,forall_const,DFW,Int.ofNat_lt]
 obtain⟨hs,hm1,hm2⟩:=h
 have hn:=Vt hs (by omega) 3
 have hn2:=hn.2 (by omega)
 have hk0:((FD a.s 3).toNat:Int)=FD a.s 3:=Int.toNat_of_nonneg hn.1
 have i0:X8 a ⟨(FD a.s 3).toNat,⟨NM a.s 3,0,[]⟩⟩:=⟨by show (FD a.s 3).toNat<=2;omega,(hs.next (by omega) 3).mono (by show _<=3-(((FD a.s 3).toNat:Nat):Int);omega),rfl,by show ((0:Nat):Int)+((FD a.s 3).toNat:Nat)<=2;omega,Int.le_refl _,by show 0<=60*(2-(((FD a.s 3).toNat:Nat):Int));omega⟩
 have w1:∀{y:KB},X8 a y->0<y.k->((y.k-1:Nat):Int)=IntKind.i64.wrap ((y.k:Int)-1):=λ{y} hy hk=>by
  have:=hy.1
  rw[JC (by omega) (by omega)];omega
 refine⟨⟨⟨rfl,hs.used.1⟩,⟨⟨_,⟨NM a.s 3,0,[]⟩⟩,⟨rfl,hk0,rfl,λ_ _=>rfl,rfl,rfl⟩,i0,rfl⟩,λy ⟨hy,hyb⟩=>⟨λhk=>?_,λhk=>?_⟩,λy hy=>⟨λhk=>?_,λhk=>?_⟩⟩,λhB=>⟨⟨⟨⟨0,⟨(mB a.s).s,[]⟩⟩,⟨rfl,rfl,λ_ _=>rfl,rfl,rfl⟩,?_,rfl⟩,λy ⟨hy,hy0⟩=>⟨λhk=>?_,λhk=>?_⟩,λy hy=>⟨λhk=>?_,λhk=>?_⟩⟩,λhL=>?_⟩⟩
 ·have hk:0<y.k:=by omega
  have hy2:X8 a y:=hy
  have ey:stpB y.x=⟨X9 y.x.s 5 60,wr (y.x.a+Yc y.x.s 5 60),[wr (y.x.a+Yc y.x.s 5 60)]⟩:=by unfold stpB;rw[hyb];rfl
  refine⟨⟨rfl,rfl,hy2.2.1.used.1⟩,⟨by omega,by omega,by omega,by omega,by omega⟩,⟨y.k-1,stpB y.x⟩,?_,CIS hy2 hk,by show y.k-1<y.k+1;omega⟩
  rw[ey]
  exact⟨rfl,w1 hy2 hk,rfl,λ_ _=>rfl,rfl,rfl,rfl,rfl,λi hi=>by rw[show i=0 by have h1:i<1:=hi;omega];rfl⟩
 ·obtain⟨e1,e2⟩:=DFC (show X8 a y from hy) (by omega)
  exact⟨default,by rw[<-e1,hyb];exact⟨rfl,rfl,λ_ _=>rfl,rfl,rfl,rfl⟩,e2⟩
 ·have hk:0<y.k:=by omega
  have hy2:X8 a y:=hy
  have:=hy2.2.2.2.1
  refine⟨⟨rfl,rfl,hy2.2.1.used.1⟩,⟨by omega,λh=>(by cases h),by omega,by omega⟩,⟨y.k-1,stpB y.x⟩,⟨rfl,w1 hy2 hk,rfl,λ_ _=>rfl,rfl,rfl,?_,?_,CWA _ _⟩,CIS hy2 hk,by show y.k-1<y.k;omega⟩<;>(show (y.x.b ++ [_]).length=_;simp)
 ·obtain⟨e1,e2⟩:=DFC (show X8 a y from hy) (by omega)
  exact⟨default,by rw[<-e1];exact⟨rfl,rfl,λ_ _=>rfl,rfl,rfl,rfl,Nat.le_refl _,λ_ _=>rfl⟩,e2⟩
 ·exact⟨hB,Nat.zero_le _,(show StmB (3-((0:Nat):Int)) (mB a.s).s from hB.2.1).mono (by show _<=3+4*((0:Nat):Int);omega),rfl,rfl,λz hz=>by cases hz⟩
 ·have hy2:inv9 a y:=hy
  have hk:y.k<=(mB a.s).b.length:=by omega
  have s0:=hy2.2.2.1
  have s1:=s0.next (by omega) 40
  have s2:=s1.next (by omega) 60
  have s3:=Uy s2 (by omega) 1 60
  have hl:y.x.l=[]:=List.eq_nil_of_length_eq_zero (by rw[hy2.2.2.2.2.1];exact hy0)
  have ey:stpL y.x=⟨lnS4 y.x.s,[mkLn y.x.s]⟩:=by unfold stpL;rw[hl];rfl
  refine⟨⟨rfl,s0.used.1,rfl,s1.used.1⟩,⟨rfl,rfl,s2.used.1,rfl,s3.used.1⟩,⟨by omega,by omega,by omega,by omega,by omega⟩,⟨y.k+1,stpL y.x⟩,?_,CMM hy2 hk,by show (mB a.s).b.length+1-(y.k+1)<_;omega⟩
  rw[ey]
  exact⟨(FN (by omega)).symm,rfl,λ_ _=>rfl,rfl,rfl,rfl,rfl,oneL _⟩
 ·have hy0:y.k=0:=hy0
  omega
 ·have hy2:inv9 a y:=hy
  have hk:y.k<=(mB a.s).b.length:=by omega
  have hb:(((mB a.s).b.length:Nat):Int)+((0:Nat):Int)<=2:=hB.2.2.2.1
  have s0:=hy2.2.2.1
  have s1:=s0.next (by omega) 40
  have s2:=s1.next (by omega) 60
  have s3:=Uy s2 (by omega) 1 60
  have hl:=hy2.2.2.2.2.1
  refine⟨⟨rfl,s0.used.1,rfl,s1.used.1⟩,⟨rfl,rfl,s2.used.1,rfl,s3.used.1⟩,⟨by omega,λh=>(by cases h),by omega,by omega⟩,⟨y.k+1,stpL y.x⟩,⟨(FN (by omega)).symm,rfl,λ_ _=>rfl,rfl,rfl,?_,?_,BWH _ _⟩,CMM hy2 hk,by show (mB a.s).b.length+1-(y.k+1)<_;omega⟩<;>(show (y.x.l ++ [_]).length=_;simp)
 ·obtain⟨e1,e2⟩:=DLV (show inv9 a y from hy) (by omega)
  exact⟨default,by rw[<-e1];exact⟨rfl,λ_ _=>rfl,rfl,rfl,rfl,Nat.le_refl _,λ_ _=>⟨rfl,rfl,rfl,rfl⟩⟩,e2⟩
 ·have hF:fin9 a:=hL
  obtain⟨g1,g2,g3,g4,g5⟩:=BWA hF
  have hw:=AML g5 (by omega) (lo:=1) (hi:=a.m) (by omega) hm1 (by omega)
  have hwk:((Yc (mL a.s).s 1 a.m).toNat:Int)=Yc (mL a.s).s 1 a.m:=Int.toNat_of_nonneg (by omega)
  have i16:APD a (Yc (mL a.s).s 1 a.m).toNat (mG0 a):=⟨hF,by omega,(Uy g5 (by omega) 1 a.m).mono (by omega),rfl,by show ((0:Nat):Int)+_<=_;omega⟩
  have hwr:IntKind.i64.wrap ((mB a.s).a+80)=hiG a:=rfl
  simp only[hwr]
  have nx:∀{m:Nat} {z:KG},Z1 a m z->APD a (z.k-1) z.x/\z.k-1<m/\((z.k-1:Nat):Int)=IntKind.i64.wrap ((z.k:Int)-1):=λ{m} {z} h=>by
   obtain⟨h1,h2,h3⟩:=h
   have h4:((z.k-1:Nat):Int)<=a.m:=h3.2.1
   exact⟨h3,by omega,by rw[JC (by omega) (by omega)];omega⟩
  have em:∀{y:MG},y=mG a->y.l=[]->mdG a=[⟨1,1,1⟩]/\mdR a=⟨[],[⟨0,0,1,1⟩]⟩:=λ{y} h h2=>by
   unfold mdG mdR;rw[<-h,h2];exact⟨rfl,rfl⟩
  have fl:∀{y:MG},y=mG a->0<y.l.length->mdG a=y.l/\mdR a=⟨(mB a.s).b,(mL a.s).l⟩:=λ{y} h h2=>by
   unfold mdG mdR;rw[<-h,decide_eq_false (by omega)];exact⟨rfl,rfl⟩
  refine⟨⟨rfl,g5.used.1⟩,⟨⟨_,mG0 a⟩,⟨hwk,rfl,λ_ _=>rfl,rfl,rfl⟩,i16,rfl⟩,λy ⟨hy,hyl⟩=>⟨λhk=>⟨⟨(show APD a y.k y.x from hy).2.2.1.used.1,⟨⟨y.k,⟨NM y.x.s (hiG a),y.x.l⟩,FD y.x.s (hiG a),0⟩,⟨rfl,rfl,rfl,λ_ _=>rfl,rfl,rfl,rfl⟩,G_in hy hm2 (by omega),hyl⟩,λz ⟨hz,hzl⟩=>⟨λ_=>⟨by omega,by omega⟩,λhp=>?_,λhp=>?_⟩⟩,λz ⟨hz,hzl⟩=>?_,λz ⟨hz,hzl⟩=>?_⟩,λhk=>?_⟩,λy ⟨hy,hyl⟩=>⟨λhk=>?_,λhk=>?_⟩⟩
  ·exact⟨⟨z.k,z.x,z.t,z.p+1⟩,⟨rfl,(FN (by omega)).symm,rfl,λ_ _=>rfl,rfl,rfl,rfl⟩,⟨G_up hz hp,hzl⟩,by have:=(CYF hp).1;show (mB a.s).b.length-(z.p+1)<_;omega⟩
  ·obtain⟨e,e2⟩:=G_at hz hp
   have ho:=DOD hz hm2
   have okl:=DAY hz
   have hI:AOS a _ z:=hz
   have zs:=hI.2.2.2.2.1
   have zs1:=zs.next (by omega) 6
   have zl:(z.x.l.length:Int)+z.k<=a.m:=hI.2.2.2.2.2.2.1
   have bw:=(BRZ okl hI.2.2.2.2.2.2.2.1).1
   rw[<-e]
   refine⟨⟨by omega,by omega⟩,λhu=>?_,λhu=>?_⟩
   ·have hu:(bif decide (X0 (C3 a z.t) z.t<0) then true else decide (X0 (C3 a z.t) z.t>wr (1000*wdG (C3 a z.t))))=true:=hu
    have es:Yx (C3 a z.t) z.x.s z.t z.x.l=z.x:=by unfold Yx;rw[hu];rfl
    rw[es] at ho
    exact⟨⟨z.k,z.x⟩,⟨rfl,rfl,λ_ _=>rfl,rfl,rfl⟩,ho,hzl⟩
   ·have hu:(bif decide (X0 (C3 a z.t) z.t<0) then true else decide (X0 (C3 a z.t) z.t>wr (1000*wdG (C3 a z.t))))=false:=hu
    have es:Yx (C3 a z.t) z.x.s z.t z.x.l=⟨X9 (NM z.x.s 6) 1 6,[D9 (C3 a z.t) z.x.s z.t]⟩:=by unfold Yx;rw[hu,show z.x.l=[] from hzl];rfl
    rw[es] at ho
    refine⟨λh0=>?_,⟨rfl,zs.used.1,rfl,rfl,zs1.used.1⟩,⟨by omega,by omega,by omega,by omega,by omega⟩,⟨z.k,⟨X9 (NM z.x.s 6) 1 6,[D9 (C3 a z.t) z.x.s z.t]⟩⟩,⟨rfl,rfl,rfl,λ_ _=>rfl,rfl,rfl,rfl,λi hi=>by rw[show i=0 by have h1:i<1:=hi;omega];exact⟨rfl,rfl,rfl⟩⟩,ho,Nat.one_pos⟩
    have h0:wdG (C3 a z.t)=0:=h0
    have:=okl.2.1;omega
  ·obtain⟨n1,n2,n3⟩:=nx (show Z1 a _ z from hz)
   exact⟨⟨z.k-1,z.x⟩,⟨n3,rfl,λ_ _=>rfl,rfl,rfl⟩,⟨n1,hzl⟩,n2⟩
  ·obtain⟨n1,n2,n3⟩:=nx (show Z1 a _ z from hz)
   exact⟨⟨z.k-1,z.x⟩,⟨rfl,n3,rfl,λ_ _=>rfl,rfl,rfl,rfl,λ_ _=>⟨rfl,rfl,rfl⟩⟩,⟨n1,hzl⟩,n2⟩
  ·have hI:APD a y.k y.x:=hy
   have e0:y.x=mG a:=by
    have:=hI.2.2.2.1
    rw[show y.k=0 by omega] at this;exact this
   obtain⟨m1,m2⟩:=em e0 hyl
   rw[m1,m2,<-e0]
   refine⟨⟨by omega,λh=>(by cases h),by omega,by omega⟩,rfl,λi hi=>?_,rfl,rfl,rfl,λi hi=>?_,rfl,λ_ _=>rfl,rfl,rfl⟩
   ·rw[show i=0 by have h1:i<1:=hi;omega];exact⟨rfl,rfl,rfl⟩
   ·rw[show i=0 by have h1:i<1:=hi;omega];exact⟨rfl,rfl,rfl,rfl⟩
  ·have hI:APD a y.k y.x:=hy
   refine⟨⟨hI.2.2.1.used.1,⟨⟨y.k,⟨NM y.x.s (hiG a),y.x.l⟩,FD y.x.s (hiG a),0⟩,⟨rfl,rfl,rfl,rfl,λ_ _=>rfl,rfl,rfl,rfl,rfl,λ_ _=>⟨rfl,rfl,rfl⟩⟩,G_in hy hm2 (by omega),hyl⟩,λz ⟨hz,hzl⟩=>⟨λ_=>⟨by omega,by omega⟩,λhp=>?_,λhp=>?_⟩⟩,λz ⟨hz,hzl⟩=>?_,λz ⟨hz,hzl⟩=>?_⟩
   ·exact⟨⟨z.k,z.x,z.t,z.p+1⟩,⟨rfl,rfl,(FN (by omega)).symm,rfl,λ_ _=>rfl,rfl,rfl,rfl,rfl,λ_ _=>⟨rfl,rfl,rfl⟩⟩,⟨G_up hz hp,hzl⟩,by have:=(CYF hp).1;show (mB a.s).b.length-(z.p+1)<_;omega⟩
   ·obtain⟨e,e2⟩:=G_at hz hp
    have ho:=DOD hz hm2
    have okl:=DAY hz
    have hI:AOS a _ z:=hz
    have zs:=hI.2.2.2.2.1
    have zs1:=zs.next (by omega) 6
    have zl:(z.x.l.length:Int)+z.k<=a.m:=hI.2.2.2.2.2.2.1
    have bw:=(BRZ okl hI.2.2.2.2.2.2.2.1).1
    rw[<-e]
    refine⟨⟨by omega,by omega⟩,λhu=>?_,λhu=>?_⟩
    ·have hu:(bif decide (X0 (C3 a z.t) z.t<0) then true else decide (X0 (C3 a z.t) z.t>wr (1000*wdG (C3 a z.t))))=true:=hu
     have es:Yx (C3 a z.t) z.x.s z.t z.x.l=z.x:=by unfold Yx;rw[hu];rfl
     rw[es] at ho
     exact⟨⟨z.k,z.x⟩,⟨rfl,rfl,rfl,λ_ _=>rfl,rfl,rfl,rfl,λ_ _=>⟨rfl,rfl,rfl⟩⟩,ho,hzl⟩
    ·have hu:(bif decide (X0 (C3 a z.t) z.t<0) then true else decide (X0 (C3 a z.t) z.t>wr (1000*wdG (C3 a z.t))))=false:=hu
     have es:Yx (C3 a z.t) z.x.s z.t z.x.l=⟨X9 (NM z.x.s 6) 1 6,z.x.l ++ [D9 (C3 a z.t) z.x.s z.t]⟩:=by unfold Yx;rw[hu];rfl
     rw[es] at ho
     refine⟨λh0=>?_,⟨rfl,zs.used.1,rfl,rfl,zs1.used.1⟩,⟨by omega,λh=>(by cases h),by omega,by omega⟩,⟨z.k,⟨X9 (NM z.x.s 6) 1 6,z.x.l ++ [D9 (C3 a z.t) z.x.s z.t]⟩⟩,⟨by simp,rfl,rfl,λ_ _=>rfl,rfl,rfl,by simp,CGD _ _⟩,ho,by show 0<(z.x.l ++ [_]).length;simp⟩
     have h0:wdG (C3 a z.t)=0:=h0
     have:=okl.2.1;omega
   ·obtain⟨n1,n2,n3⟩:=nx (show Z1 a _ z from hz)
    exact⟨⟨z.k-1,z.x⟩,⟨n3,rfl,λ_ _=>rfl,rfl,rfl⟩,⟨n1,hzl⟩,n2⟩
   ·obtain⟨n1,n2,n3⟩:=nx (show Z1 a _ z from hz)
    exact⟨⟨z.k-1,z.x⟩,⟨rfl,n3,rfl,λ_ _=>rfl,rfl,rfl,rfl,λ_ _=>⟨rfl,rfl,rfl⟩⟩,⟨n1,hzl⟩,n2⟩
  ·have hI:APD a y.k y.x:=hy
   have e0:y.x=mG a:=by
    have:=hI.2.2.2.1
    rw[show y.k=0 by omega] at this;exact this
   obtain⟨m1,m2⟩:=fl e0 hyl
   rw[m1,m2,<-e0]
   refine⟨λhc=>?_,λ_=>⟨rfl,Nat.le_refl _,λ_ _=>⟨rfl,rfl,rfl⟩,rfl,λ_ _=>rfl,rfl,λ_ _=>⟨rfl,rfl,rfl,rfl⟩,rfl,λ_ _=>rfl,rfl,rfl⟩⟩
   have hc:((y.x.l.length:Nat):Int)=0:=by simpa using hc
   omega
theorem DGV:AM Try.prog CJT (C_Made.spec dMkI):=WY C_Made DCB [] [303] DIF (λ_=>by kernel_rfl) (λ_=>AB CNP (AB CTI AG)) (λ(a:MkI) h=>DQL a (show preM a/\True from h).1) (λ_=>YE rfl rfl) _
end Go.Bal
