/- Package rating: ratings and gaugings that are made of numbers. -/
import Derived.Test.YtlblbbidigejkaaGreatRT2
set_option linter.unusedVariables false
set_option linter.unusedSimpArgs false
namespace Go.Bal
open Go Go.Sym Go.Proofs
structure MB where
 s:Stm
 a:Int
 b:List Int
 deriving Inhabited
def stpB(x:MB):MB:=⟨kQ x.s 5 60,wr (x.a+Jt x.s 5 60),x.b ++ [wr (x.a+Jt x.s 5 60)]⟩
def mkB:Nat->MB->MB
 |0,x=>x
 |n+1,x=>mkB n (stpB x)
def mB(s:Stm):MB:=mkB (BS s 3).toNat ⟨DI s 3,0,[]⟩
structure ML where
 s:Stm
 l:List Ln
 deriving Inhabited
def lnS1(s:Stm):Stm:=DI s 40
def lnS2(s:Stm):Stm:=DI (lnS1 s) 60
def lnS3(s:Stm):Stm:=kQ (lnS2 s) 1 60
def lnS4(s:Stm):Stm:=DI (lnS3 s) 200
def mkLn(s:Stm):Ln:=⟨BS s 40,BS (lnS1 s) 60,wr (BS s 40+Jt (lnS2 s) 1 60),wr (BS (lnS1 s) 60+BS (lnS3 s) 200)⟩
def stpL(x:ML):ML:=⟨lnS4 x.s,x.l ++ [mkLn x.s]⟩
def mkL:Nat->ML->ML
 |0,x=>x
 |n+1,x=>mkL n (stpL x)
def mL(s:Stm):ML:=mkL ((mB s).b.length+1) ⟨(mB s).s,[]⟩
structure MG where
 s:Stm
 l:List Gau
 deriving Inhabited
def ptK(b:List Int)(t:Int):Nat->Nat->Nat
 |0,k=>k
 |n+1,k=>bif decide (gD b k<=t) then ptK b t n (k+1) else k
def ptM(b:List Int)(t:Int):Nat:=ptK b t b.length 0
def vV(x:Ln)(t:Int):Int:=wr (wr (x.a1*wr (x.b0-x.a0))+wr (wr (x.b1-x.a1)*wr (t-x.a0)))
def U0(x:Ln):Int:=wr (x.b0-x.a0)
def vG(x:Ln)(t:Int):Int:=wr ((vV x t).tdiv (U0 x))
def mxG(n:Int):Int:=EU 0 n
def oR(x:Ln)(s:Stm)(t:Int):Gau:=⟨t,mxG (wr (vG x t-BS s 6)),wr (vG x t+Jt (DI s 6) 1 6)⟩
def Ql(x:Ln)(s:Stm)(t:Int)(l:List Gau):MG:=bif (bif decide (vV x t<0) then true else decide (vV x t>wr (1000*U0 x))) then⟨s,l⟩ else⟨kQ (DI s 6) 1 6,l ++ [oR x s t]⟩
def mkG(b:List Int)(ls:List Ln)(n:Int):Nat->MG->MG
 |0,x=>x
 |k+1,x=>mkG b ls n k (Ql (gD ls (ptM b (BS x.s n))) (DI x.s n) (BS x.s n) x.l)
structure MkI where
 s:Stm
 m:Int
def hiG(a:MkI):Int:=wr ((mB a.s).a+80)
def mG0(a:MkI):MG:=⟨kQ (mL a.s).s 1 a.m,[]⟩
def mG(a:MkI):MG:=mkG (mB a.s).b (mL a.s).l (hiG a) (Jt (mL a.s).s 1 a.m).toNat (mG0 a)
def mdG(a:MkI):List Gau:=bif decide ((mG a).l.length=0) then [⟨1,1,1⟩] else (mG a).l
def mdR(a:MkI):Rtg:=bif decide ((mG a).l.length=0) then⟨[],[⟨0,0,1,1⟩]⟩ else⟨(mB a.s).b,(mL a.s).l⟩
def okMk(x:Ln):Prop:=(0<=x.a0/\x.a0<=39)/\(1<=x.b0-x.a0/\x.b0-x.a0<=60)/\(0<=x.a1/\x.a1<=59)/\0<=x.b1-x.a1/\x.b1-x.a1<=199
structure KB where
 k:Nat
 x:MB
 deriving Inhabited
structure KL where
 k:Nat
 x:ML
 deriving Inhabited
structure KG where
 k:Nat
 x:MG
 deriving Inhabited
structure KP where
 k:Nat
 x:MG
 t:Int
 p:Nat
 deriving Inhabited
def mdS(a:MkI):List (Nat×AVal):=[(0,.bptr 100 0),(1,.int a.m),(5,.bptr 1016 0),(6,.bptr 2000 0)]
def rtB(b l:AVal):HCell:=.live (.box [b,l])
def mdH(s:Stm)(b l:AVal):List (Nat×HCell):=[(100,stmH s),(1016,zRtg),(2000,rtB b l)]
def preM(a:MkI):Prop:=StmB 0 a.s/\1<=a.m/\a.m<=100
def wL(a:MkI)(y:KB):Prop:=y.k<=2/\StmB (3-y.k) y.x.s/\mkB y.k y.x=mB a.s/\(y.x.b.length:Int)+y.k<=2/\0<=y.x.a/\y.x.a<=60*(2-y.k)
def md4n(a:MkI):Shape:={ α:=KB,dflt:=default,T:=λy=>⟨mdS a ++ [(7,.int y.x.a),(8,.int y.k)],mdH y.x.s (.d JX) (.d JX)⟩,inv:=λy=>wL a y/\y.x.b=[],meas:=λy=>y.k+1 }
def md4o(a:MkI):Shape:={ α:=KB,dflt:=default,T:=λy=>⟨mdS a ++ [(7,.int y.x.a),(8,.int y.k)],mdH y.x.s (.own 301 1 0 y.x.b.length) (.d JX) ++ [(301,.live (rowI y.x.b))]⟩,inv:=λy=>wL a y,meas:=λy=>y.k,again:=[(301,8064)] }
def md8(a:MkI):Shape:={ α:=One,dflt:=default,T:=λ_=>⟨mdS a ++ [(7,.int (mB a.s).a)],mdH (mB a.s).s (.d (BM (mB a.s).b)) (.d JX)⟩,inv:=λ_=>wL a ⟨0,mB a.s⟩,meas:=λ_=>0,ffz:=[301] }
def inv9(a:MkI)(y:KL):Prop:=wL a ⟨0,mB a.s⟩/\y.k<=(mB a.s).b.length+1/\StmB (3+4*y.k) y.x.s/\mkL ((mB a.s).b.length+1-y.k) y.x=mL a.s/\y.x.l.length=y.k/\∀z∈y.x.l,okMk z
def md9S(a:MkI)(k:Nat):List (Nat×AVal):=mdS a ++ [(7,.int (mB a.s).a),(9,.int k)]
def md9n(a:MkI):Shape:={ α:=KL,dflt:=default,T:=λy=>⟨md9S a y.k,mdH y.x.s (.d (BM (mB a.s).b)) (.d JX)⟩,inv:=λy=>inv9 a y/\y.k=0,meas:=λy=>(mB a.s).b.length+3 }
def md9o(a:MkI):Shape:={ α:=KL,dflt:=default,T:=λy=>⟨md9S a y.k,mdH y.x.s (.d (BM (mB a.s).b)) (.own 302 4 0 y.x.l.length) ++ [(302,.live (rowL y.x.l))]⟩,inv:=λy=>inv9 a y,meas:=λy=>(mB a.s).b.length+1-y.k,again:=[(302,14064)] }
def mdHG(a:MkI)(s:Stm):List (Nat×HCell):=mdH s (.d (BM (mB a.s).b)) (.d (eLns (mL a.s).l))
def md14(a:MkI):Shape:={ α:=One,dflt:=default,T:=λ_=>⟨mdS a ++ [(7,.int (mB a.s).a)],mdHG a (mL a.s).s⟩,inv:=λ_=>inv9 a ⟨(mB a.s).b.length+1,mL a.s⟩,meas:=λ_=>0,ffz:=[302] }
def mdSG(a:MkI)(k:Nat)(v:AVal):List (Nat×AVal):=[(0,.bptr 100 0),(5,.bptr 1016 0),(6,.bptr 2000 0),(7,.int (mB a.s).a),(11,v),(12,.int k)]
def fin9(a:MkI):Prop:=inv9 a ⟨(mB a.s).b.length+1,mL a.s⟩
def mkGa(a:MkI)(k:Nat)(x:MG):MG:=mkG (mB a.s).b (mL a.s).l (hiG a) k x
def T6(a:MkI)(k:Nat)(x:MG):Prop:=fin9 a/\(k:Int)<=a.m/\StmB (16+3*(a.m-k)) x.s/\mkGa a k x=mG a/\(x.l.length:Int)+k<=a.m
def DBG(a:MkI):Shape:={ α:=KG,dflt:=default,T:=λy=>⟨mdSG a y.k (.d JX),mdHG a y.x.s⟩,inv:=λy=>T6 a y.k y.x/\y.x.l=[],meas:=λy=>y.k,tag:=[0] }
def DCN(a:MkI):Shape:={ α:=KG,dflt:=default,T:=λy=>⟨mdSG a y.k (.own 303 3 0 y.x.l.length),mdHG a y.x.s ++ [(303,.live (rowG y.x.l))]⟩,inv:=λy=>T6 a y.k y.x/\0<y.x.l.length,meas:=λy=>y.k,tag:=[1] }
def mC(a:MkI)(t:Int):Ln:=gD (mL a.s).l (ptM (mB a.s).b t)
def T5(a:MkI)(m:Nat)(y:KP):Prop:=fin9 a/\y.k=m/\1<=y.k/\(y.k:Int)<=a.m/\StmB (17+3*(a.m-y.k)) y.x.s/\mkGa a (y.k-1) (Ql (mC a y.t) y.x.s y.t y.x.l)=mG a/\(y.x.l.length:Int)+y.k<=a.m/\(0<=y.t/\y.t<=199)/\y.p<=(mB a.s).b.length/\ptM (mB a.s).b y.t=ptK (mB a.s).b y.t ((mB a.s).b.length-y.p) y.p
def gauB(t:Int):HCell:=.live (.box [.int t,.int 0,.int 0])
def CZU(a:MkI)(m:Nat):Shape:={ α:=KP,dflt:=default,T:=λy=>⟨mdSG a y.k (.d JX) ++ [(13,.bptr 204 0),(14,.int y.p)],mdHG a y.x.s ++ [(204,gauB y.t)]⟩,inv:=λy=>T5 a m y/\y.x.l=[],meas:=λy=>(mB a.s).b.length-y.p,first:=[(204,19080)] }
def DDD(a:MkI)(m:Nat):Shape:={ α:=KP,dflt:=default,T:=λy=>⟨mdSG a y.k (.own 303 3 0 y.x.l.length) ++ [(13,.bptr 204 0),(14,.int y.p)],mdHG a y.x.s ++ [(204,gauB y.t),(303,.live (rowG y.x.l))]⟩,inv:=λy=>T5 a m y/\0<y.x.l.length,meas:=λy=>(mB a.s).b.length-y.p,first:=[(204,19080)] }
def H6(a:MkI)(m:Nat)(y:KG):Prop:=y.k=m/\1<=y.k/\T6 a (y.k-1) y.x
def DAX(a:MkI)(m:Nat):Shape:={ α:=KG,dflt:=default,T:=λy=>⟨mdSG a y.k (.d JX),mdHG a y.x.s⟩,inv:=λy=>H6 a m y/\y.x.l=[],meas:=λ_=>0 }
def CRF(a:MkI)(m:Nat)(f:List (Nat×Nat)):Shape:={ α:=KG,dflt:=default,T:=λy=>⟨mdSG a y.k (.own 303 3 0 y.x.l.length),mdHG a y.x.s ++ [(303,.live (rowG y.x.l))]⟩,inv:=λy=>H6 a m y/\0<y.x.l.length,meas:=λ_=>0,first:=f }
def dMkI:List AVal->Heap->Option (MkI×List (Nat×Nat)×List Nat)
 |[.bptr p _,.d (.v (.int _ n))],H=>match BLF H p with
  |some s=>some (⟨s,n⟩,[(100,p)],[])
  |none=>none
 |_,_=>none
def C_Made:Ctr:={ α:=MkI,xs:=λa=>[.bptr 100 0,.int a.m],L:=λa=>[(100,stmO a.s)],val:=λa=>.tup [.d (TB (mdG a)),.d (eRtg (mdR a))],keep:=λa=>[(100,stmH (mG a).s)],pre:=λa=>[preM a/\True] }
def CHF(a:MkI):Ann:={ ann 169 [(20,C_Next.spec AQA),(19,C_Within.spec ATV)] with E:=[100],mt:=λid=>id==7||id==13||id==28,md:=λid=>if id=30 then some (λk=>if k=2 then 4 else 0) else if id=31 then some (λk=>if k=3 then 4 else 0) else none,loops:=λid=>if id=4 then some [md4n a,md4o a] else if id=9 then some [md9n a,md9o a] else if id=16 then some [DBG a,DCN a] else none,inner:=λgs id=>if id=20 then (if gs.getD 1 0=0 then some [CZU a (gs.getD 0 0)] else some [DDD a (gs.getD 0 0)]) else none,cut:=λid=>if id=8 then some [md8 a] else if id=14 then some [md14 a] else none,cutIn:=λgs id=>if id=17 then some [DAX a (gs.getD 0 0),CRF a (gs.getD 0 0) [(303,29048)],CRF a (gs.getD 0 0) []] else none }
def BYJ(a:MkI):Prop:=AS ZP (CHF a) Tryz.f6 (AG Tryz.f6) (C_Made.xs a) (AC (C_Made.L a)) (C_Made.val a) (C_Made.keep a) [] [303]
abbrev AFB:=MkI.s
abbrev BQS:=@Exists KB
abbrev kS:=MkI.m
abbrev UL:=KB.k
abbrev CAD:=@Eq (List Int)
abbrev CEX:=λ(f:KB->Prop)=>∀(x:KB),f x
abbrev BQY:=@Exists KL
abbrev OX:=KL.k
abbrev AUM:=λ(f:Ln->Prop)=>∀(x:Ln),f x
abbrev BZT:=λ(f:KL->Prop)=>∀(x:KL),f x
abbrev U4:=@Exists KG
abbrev IE:=KG.k
abbrev ANH:=λ(f:KG->Prop)=>∀(x:KG),f x
abbrev BIU:=@Exists KP
abbrev ME:=KP.k
abbrev IT:=KP.p
abbrev JA:=KP.t
abbrev BZQ:=λ(f:KP->Prop)=>∀(x:KP),f x
abbrev SA a b:=AN (Tb a) (Tb b)
abbrev DX a:=MG.s (KG.x a)
abbrev Qg a:=MG.s (mG a)
abbrev UZ a b:=AN (NF a) (NF b)
abbrev APJ a:=mL (AFB a)
abbrev Gr a:=ML.l (APJ a)
abbrev bE a:=wI (mdR a)
abbrev AIO a:=mB (AFB a)
abbrev LQ a:=MB.b (AIO a)
abbrev Z0 a:=N3 (mdR a)
abbrev LM a:=MG.l (KG.x a)
abbrev VA a:=DW (LM a)
abbrev xV a b:=HT a (LM b)
abbrev TI a:=Sc a 0
abbrev BLH a b:=hd49 a (AZ b)
abbrev sP a b:=BLH (AZ a) b
abbrev xU a b c:=(@Eq MG) (mkGa a b c) (mG a)
abbrev zJ a b:=KM a (kS b)
abbrev L3 a b:=zJ (AZ a) b
abbrev Dm a b c d e f g h:=F0 a (L3 b c) d (xU e b (KG.x f)) (sP (VA g) b) (kS h)
abbrev AJR a b c:=hd49 a (vI b c)
abbrev BPS a b c d:=StmB (AJR a b c) d
abbrev J7 a b c d:=BPS a 3 (tS (kS b) c) d
abbrev tL a b c:=J7 16 a b (DX c)
abbrev ACM a b c d e(f:Ln->Prop):=BW a b c d e (AUM f)
abbrev qK a b c:=TD ((@List.Mem Ln) a b) c
abbrev AZD a b:=And (Bo a) (KM a b)
abbrev Z2 a b c:=iP (Er (FJ a) 39) (AZD (hd21 (FP b) (FJ b)) 60) (Er (FH c) 59) (hd21 (EV c) (FH c)) 199
abbrev BBW a b:=qK a (Gr b) (Z2 a a a)
abbrev AOX a b:=RY (Gr a) b
abbrev aC a:=HN (BQ a)
abbrev ZS a:=aC (LQ a)
abbrev BDM a:=AOX a (ZS a)
abbrev X1 a b c:=(@Eq ML) (mkL a b) (APJ c)
abbrev AYM a:=X1 (KO (ZS a) (ZS a)) (APJ a) a
abbrev ABX a b:=BPS 3 4 (AZ a) b
abbrev Do a:=ML.s (APJ a)
abbrev AZR a:=ABX (ZS a) (Do a)
abbrev AYC a:=AKY (ZS a)
abbrev AYZ a b c d e f g:=iP (StmB a b) c d e (vI f g)
abbrev ACE a b c d e f g h p:=VU a b (AYZ c d e f g h p)
abbrev BBK a:=tS a 0
abbrev BDH:=BBK 2
abbrev fU a:=MB.a (AIO a)
abbrev X6 a b c:=KM (BLH a b) c
abbrev B7 a:=LW (LQ a)
abbrev BBF a:=X6 (B7 a) 0 2
abbrev AAQ a b c:=(@Eq MB) (mkB a b) (AIO c)
abbrev BBJ a:=AAQ 0 (AIO a) a
abbrev Ej a:=MB.s (AIO a)
abbrev AYS:=BBK 3
abbrev fY a:=ACE 0 2 AYS (Ej a) (BBJ a) (BBF a) (fU a) 60 BDH
abbrev QH a b c d e f:=ACM (fY a) (AYC b) (AZR c) (AYM d) (BDM e) (λi=>BBW i f)
abbrev Oc a b c d e f g h:=AP a b c d e f g a h
abbrev Dg a b c d e f g:=Oc AB a b c d e f g
abbrev Na a:=ADY (Gr a)
abbrev Me a:=AAW (Gr a)
abbrev XA a:=IU (LQ a)
abbrev XU a:=MO (LQ a)
abbrev hU a b:=SA (DX a) b
abbrev iU a b:=MR (DX a) b
abbrev kH a b:=JQ (DX a) b
abbrev On a b:=TO a (Oo b)
abbrev Al a:=AI (fU a)
abbrev nG a b c:=xK a (IE b) c
abbrev jF a:=Dz (IE a)
abbrev oW a b c:=tL a (jF b) c
abbrev J9 a b:=BB a (IE b)
abbrev oC a b:=J9 (IE a) b
abbrev E7 a:=Qw (LM a)
abbrev pA a b c d e f g:=AP a b c b c d e f g
abbrev tR a:=NF (DX a)
abbrev Va a b c:=Jt (BDA a) b c
abbrev BP a:=MG.s (KP.x a)
abbrev Lw a:=Af (BP a) 6
abbrev BOO a b c:=CW a (NB (Gr b) (IT c))
abbrev Cn a b c d:=BOO (NM (Gr a) (IT b)) c d
abbrev nH a b c:=BOO (JA a) b c
abbrev rN a b:=OS (Gr a) (IT b)
abbrev oB a b:=MY (Gr a) (IT b)
abbrev LN a:=MG.l (KP.x a)
abbrev Kf a:=DW (LN a)
abbrev xD a:=hd50 0 a
abbrev BLW a b c:=kQ (BDA a) b c
abbrev Zw a b:=BLW a 1 b
abbrev O2 a:=Zw a 6
abbrev oM a:=O2 (Lw a)
abbrev ADU a:=BEF (NF a)
abbrev TZ a:=AI (NF a)
abbrev Vq:=DJ 1 1
abbrev Ic a:=IM (NF a)
abbrev Du a:=BQ (LQ a)
abbrev AAA a:=Dz (ME a)
abbrev ADE a:=LS (ME a)
abbrev BVF a b c d e f g:=BQV a b c d e f f g
abbrev Ec a b c d e f g h:=AP a b c d e f f g h
abbrev AHE a:=CP (fU a) 80
abbrev tF a b:=Af (DX a) (AHE b)
abbrev AEG a b c d e f g:=RI a b b c d e f g
abbrev Bt a:=ML.l (KL.x a)
abbrev cI a:=KF (Bt a)
abbrev IQ a:=ML.s (KL.x a)
abbrev H4 a b:=RY (Bt a) b
abbrev CJI a b c d e f g:=RI a b c d e f f g
abbrev Fh a:=BLO (IQ a) (IQ a) (IQ a) 40
abbrev Lh a:=Af (Fh a) 60
abbrev Ml a:=Zw (Lh a) 60
abbrev qO a:=Af (Ml a) 200
abbrev uV a:=AI (kS a)
abbrev oI:=DJ 60 60
abbrev TJ a:=MB.b (KB.x a)
abbrev IA a:=MB.s (KB.x a)
abbrev Ip a:=MB.a (KB.x a)
abbrev bG a b:=tS a (UL b)
abbrev BUQ a b c d e f:=AEG a b c b d e f
abbrev BPG a b c d e:=BUQ a b c a d e
abbrev BPV a b c d:=BPG a b c c d
abbrev Fg a b:=Sc a (aC b)
abbrev mO a:=BLW (IA a) 5 60
abbrev AJX:=BKX 0 1 1
abbrev pZ a b c d:=ANG a B6 AJX b c d
abbrev iK a b c:=pZ a aG b c
abbrev fX a:=AFC (aC a) 8
abbrev BMY a b:=DC (aC a) b
abbrev fI a:=BMY a 9223372036854775807
abbrev jQ a:=rH a (tD 0 a (BI 1))
abbrev A4 a:=DC a 2
abbrev rE:=ABZ 1
abbrev APQ a:=CAD a S9
attribute [go_sem] AFB BQS kS UL CAD CEX BQY OX AUM BZT U4 IE ANH BIU ME IT JA BZQ SA DX Qg UZ APJ Gr bE AIO LQ Z0 LM VA xV TI BLH sP xU zJ L3 Dm AJR BPS J7 tL ACM qK AZD Z2 BBW AOX aC ZS BDM X1 AYM ABX Do AZR AYC AYZ ACE BBK BDH fU X6 B7 BBF AAQ BBJ Ej AYS fY QH Oc Dg Na Me XA XU hU iU kH On Al nG jF oW J9 oC E7 pA tR Va BP Lw BOO Cn nH rN oB LN Kf xD BLW Zw O2 oM ADU TZ Vq Ic Du AAA ADE BVF Ec AHE tF AEG Bt cI IQ H4 CJI Fh Lh Ml qO uV oI TJ IA Ip bG BUQ BPG BPV Fg mO AJX pZ iK fX BMY fI jQ A4 rE APQ
theorem COQ(a:MkI):(BYJ a)=(Kw (And (DJ 3 3) (M2 (AFB a))) (BQS (λi=>AQ (LL (uV a) (Ip i) 0 (JG (TO (UL i) (OP (AFB a) 3)) (JQ (IA i) (Af (AFB a) 3)) (MR (IA i) (Af (AFB a) 3)) (NF (IA i)) (NF (Af (AFB a) 3)) (aP (SA (IA i) (Af (AFB a) 3)) AB AK AB AK AB AK))) (ACE (UL i) 2 (bG 3 i) (IA i) (AAQ (UL i) (KB.x i) a) (X6 (LW (TJ i)) (UL i) 2) (Ip i) 60 (bG 2 i)) (APQ (TJ i)))) (CEX (λi=>Oq (And (ACE (UL i) 2 (bG 3 i) (IA i) (AAQ (UL i) (KB.x i) a) (X6 (LW (TJ i)) (UL i) 2) (Ip i) 60 (bG 2 i)) (APQ (TJ i))) (Lc (UL i)) (AQ (LL (DJ 5 5) 60 (wM 60) (M2 (IA i))) (pZ rE Ro Lo 8) (BQS (λj=>NT (AP (uV a) (Ug (Ip j) (Ip i) (Va (IA i) 5 60)) (On (UL j) (UL i)) (JQ (IA j) (mO i)) (MR (IA j) (mO i)) (UZ (IA j) (mO i)) (SA (IA j) (mO i)) AB (BPV AK AB (qJ (TJ j)) (AE (λk=>VL k (TJ j) k (CP (Ip i) (Va (IA i) 5 60)))))) (ACE (UL j) 2 (bG 3 j) (IA j) (AAQ (UL j) (KB.x j) a) (X6 (LW (TJ j)) (UL j) 2) (Ip j) 60 (bG 2 j)) (UL j) (HN (UL i))))) (CV (uV a) (Kt (fU a) (Ip i) (JQ (Ej a) (IA i)) (MR (Ej a) (IA i)) (NF (Ej a)) (NF (IA i)) (pA (SA (Ej a) (IA i)) AB AK (TI (LQ a)) (TI (LQ a)) AB AK)) (A4 0) (AYZ AYS (Ej a) (BBJ a) (BBF a) (fU a) 60 BDH)))) (CEX (λi=>Oq (ACE (UL i) 2 (bG 3 i) (IA i) (AAQ (UL i) (KB.x i) a) (X6 (LW (TJ i)) (UL i) 2) (Ip i) 60 (bG 2 i)) (Lc (UL i)) (AQ (LL (DJ 5 5) 60 (wM 60) (M2 (IA i))) (iK (jQ (TJ i)) (fI (TJ i)) (fX (TJ i))) (BQS (λj=>NT (AP (uV a) (Ug (Ip j) (Ip i) (Va (IA i) 5 60)) (On (UL j) (UL i)) (JQ (IA j) (mO i)) (MR (IA j) (mO i)) (UZ (IA j) (mO i)) (SA (IA j) (mO i)) AB (BPV AK AB (Fg (TJ j) (TJ i)) (AE (λk=>VL k (TJ j) k (BF k (BQ (TJ i)) (ID (TJ i) k) (CP (Ip i) (Va (IA i) 5 60))))))) (ACE (UL j) 2 (bG 3 j) (IA j) (AAQ (UL j) (KB.x j) a) (X6 (LW (TJ j)) (UL j) 2) (Ip j) 60 (bG 2 j)) (UL j) (UL i)))) (DK (LL (uV a) (fU a) (Ip i) (JG (JQ (Ej a) (IA i)) (MR (Ej a) (IA i)) (UZ (Ej a) (IA i)) (Tb (Ej a)) (Tb (IA i)) (AEG AB AK (BH (LQ a) (TJ i)) (LU (BQ (TJ i))) (AE (λj=>jU j (LQ a) (TJ i) (AJ j))) AB AK))) 0 2 (AYZ AYS (Ej a) (BBJ a) (BBF a) (fU a) 60 BDH)))) (Pb (fY a) (AQ (BQY (λi=>AQ (KD (kS a) (fU a) (JG (BC (OX i)) (JQ (IQ i) (Ej a)) (MR (IQ i) (Ej a)) (NF (IQ i)) (NF (Ej a)) (pA (SA (IQ i) (Ej a)) AB AK (XU a) (XA a) AB AK))) (ACM (fY a) (DC (OX i) (ZS a)) (ABX (OX i) (IQ i)) (X1 (KO (ZS a) (OX i)) (KL.x i) a) (H4 i (OX i)) (λj=>qK j (Bt i) (Z2 j j j))) (fF (OX i)))) (BZT (λi=>Oq (And (ACM (fY a) (DC (OX i) (ZS a)) (ABX (OX i) (IQ i)) (X1 (KO (ZS a) (OX i)) (KL.x i) a) (H4 i (OX i)) (λj=>qK j (Bt i) (Z2 j j j))) (fF (OX i))) (hd7 (AZ (OX i)) (B7 a)) (AO (AO (DJ 40 40) (SF (IQ i)) (RX (IQ i)) (AP (TZ (IQ i)) (SH (IQ i)) (Ic (IQ i)) oI (SF (Fh i)) (RX (Fh i)) (TZ (Fh i)) (SH (Fh i)) (ADU (Fh i)))) (CB Vq oI (SF (Lh i)) (RX (Lh i)) (AP (TZ (Lh i)) (SH (Lh i)) (Ic (Lh i)) (DJ 200 200) (SF (Ml i)) (RX (Ml i)) (TZ (Ml i)) (SH (Ml i)) (ADU (Ml i)))) Od (BQY (λj=>Kv (AP (uV a) (Al a) (AR (OX j) (OX i)) (JQ (IQ j) (qO i)) (MR (IQ j) (qO i)) (UZ (IQ j) (qO i)) (SA (IQ j) (qO i)) AB (CJI AK AB (XU a) (XA a) AB (H4 j 1) (AE (λk=>Mb k (cI j) (Bt j) (OP (IQ i) 40) (OP (Fh i) 60) (CP (OP (IQ i) 40) (Va (Lh i) 1 60)) (CP (OP (Fh i) 60) (OP (Ml i) 200)))))) (ACM (fY a) (DC (OX j) (ZS a)) (ABX (OX j) (IQ j)) (X1 (KO (ZS a) (OX j)) (KL.x j) a) (H4 j (OX j)) (λk=>qK k (Bt j) (Z2 k k k))) (ZS a) (OX j) (JM (Du a) 3)))) (CV (uV a) (JG (Al a) (JQ (Do a) (IQ i)) (MR (Do a) (IQ i)) (NF (Do a)) (NF (IQ i)) (pA (SA (Do a) (IQ i)) AB AK (XU a) (XA a) (AOX a 0) (AOX a 0))) (fY a) (CB (AYC a) (AZR a) (AYM a) (BDM a) (AUM (λj=>BBW j a)))))) (BZT (λi=>Oq (ACM (fY a) (DC (OX i) (ZS a)) (ABX (OX i) (IQ i)) (X1 (KO (ZS a) (OX i)) (KL.x i) a) (H4 i (OX i)) (λj=>qK j (Bt i) (Z2 j j j))) (hd7 (AZ (OX i)) (B7 a)) (AO (AO (DJ 40 40) (SF (IQ i)) (RX (IQ i)) (AP (TZ (IQ i)) (SH (IQ i)) (Ic (IQ i)) oI (SF (Fh i)) (RX (Fh i)) (TZ (Fh i)) (SH (Fh i)) (ADU (Fh i)))) (CB Vq oI (SF (Lh i)) (RX (Lh i)) (AP (TZ (Lh i)) (SH (Lh i)) (Ic (Lh i)) (DJ 200 200) (SF (Ml i)) (RX (Ml i)) (TZ (Ml i)) (SH (Ml i)) (ADU (Ml i)))) (ACG (cI i)) (BQY (λj=>EO (AP (uV a) (Al a) (AR (OX j) (OX i)) (JQ (IQ j) (qO i)) (MR (IQ j) (qO i)) (UZ (IQ j) (qO i)) (SA (IQ j) (qO i)) AB (CJI AK AB (XU a) (XA a) AB (H4 j (HN (cI i))) (AE (λk=>Mb k (cI j) (Bt j) (BF k (cI i) (NB (Bt i) k) (OP (IQ i) 40)) (BF k (cI i) (MY (Bt i) k) (OP (Fh i) 60)) (BF k (cI i) (NM (Bt i) k) (CP (OP (IQ i) 40) (Va (Lh i) 1 60))) (BF k (cI i) (OS (Bt i) k) (CP (OP (Fh i) 60) (OP (Ml i) 200))))))) (ACM (fY a) (DC (OX j) (ZS a)) (ABX (OX j) (IQ j)) (X1 (KO (ZS a) (OX j)) (KL.x j) a) (H4 j (OX j)) (λk=>qK k (Bt j) (Z2 k k k))) (ZS a) (OX j) (OX i)))) (VM (KD (kS a) (fU a) (JG (JQ (Do a) (IQ i)) (MR (Do a) (IQ i)) (UZ (Do a) (IQ i)) (Tb (Do a)) (Tb (IQ i)) (AEG AB AK (XU a) (XA a) (AOX a (cI i)) (LU (cI i)) (AE (λj=>uB j (KF (Gr a)) (Gr a) (NB (Bt i) (AJ j)) (MY (Bt i) (AJ j)) (Bt i) (AJ j)))))) (fY a) (AYC a) (AZR a) (AYM a) (BDM a) (AUM (λj=>BBW j a)))))) (ADG (QH a a a a a a) (AO (LZ Vq (kS a) (M2 (Do a))) (U4 (λi=>AQ (AO (Al a) AB AK (JG (TO (IE i) (Va (Do a) 1 (kS a))) (kH i (Zw (Do a) (kS a))) (iU i (Zw (Do a) (kS a))) (tR i) (NF (Zw (Do a) (kS a))) (pA (hU i (Zw (Do a) (kS a))) AB AK (XU a) (XA a) (Me a) (Na a)))) (Dm (QH a a a a a a) (IE i) a (tL a (IE i) i) a i i a) (E7 i))) (ANH (λi=>Km (And (Dm (QH a a a a a a) (IE i) a (tL a (IE i) i) a i i a) (E7 i)) (Lc (IE i)) (CV (AI (AHE a)) (BEE (DX i) (tR i)) (BIU (λj=>AQ (AO (Al a) AB AK (AP (AT (ME j) (IE i)) (BC (IT j)) (JQ (BP j) (tF i a)) (MR (BP j) (tF i a)) (UZ (BP j) (tF i a)) (SA (BP j) (tF i a)) AB AK (B9 AB AK (XU a) (XA a) (Me a) (Na a) (AN (JA j) (OP (DX i) (AHE a))) AU))) (And (QH a a a a a a) (AP (J9 (ME j) i) (ADE j) (L3 (ME j) a) (J7 17 a (ME j) (BP j)) (xU a (AAA j) (Ql (mC a (JA j)) (BP j) (JA j) (LN j))) (zJ (sP (Kf j) (ME j)) a) (Er (JA j) 199) (DC (IT j) (Du a)) (BB (ptM (LQ a) (JA j)) (ptK (LQ a) (JA j) (KO (Du a) (IT j)) (IT j))))) (Qw (LN j)))) (BZQ (λj=>Wd (EM (QH a a a a a a) (AP (J9 (ME j) i) (ADE j) (L3 (ME j) a) (J7 17 a (ME j) (BP j)) (xU a (AAA j) (Ql (mC a (JA j)) (BP j) (JA j) (LN j))) (zJ (sP (Kf j) (ME j)) a) (Er (JA j) 199) (DC (IT j) (Du a)) (BB (ptM (LQ a) (JA j)) (ptK (LQ a) (JA j) (KO (Du a) (IT j)) (IT j)))) (Qw (LN j))) (RN (RL (IT j) (B7 a)) (MZ (IT j) (LQ a))) (Wm (IC (RL (IT j) (B7 a)) (hd7 (ID (LQ a) (IT j)) (JA j))) (BIU (λk=>EO (AO (Al a) AB AK (AP (AT (ME k) (ME j)) (AR (IT k) (IT j)) (JQ (BP k) (BP j)) (MR (BP k) (BP j)) (UZ (BP k) (BP j)) (SA (BP k) (BP j)) AB AK (B9 AB AK (XU a) (XA a) (Me a) (Na a) (AN (JA k) (JA j)) AU))) (EM (QH a a a a a a) (AP (J9 (ME k) i) (ADE k) (L3 (ME k) a) (J7 17 a (ME k) (BP k)) (xU a (AAA k) (Ql (mC a (JA k)) (BP k) (JA k) (LN k))) (zJ (sP (Kf k) (ME k)) a) (Er (JA k) 199) (DC (IT k) (Du a)) (BB (ptM (LQ a) (JA k)) (ptK (LQ a) (JA k) (KO (Du a) (IT k)) (IT k)))) (Qw (LN k))) (Du a) (IT k) (IT j))) (CL (IT j) (KF (Gr a))) (Ba (G9 (Pu (oB a j) (Cn a j a j) (rN a j) (nH j a j))) (hd94 (Pu (oB a j) (Cn a j a j) (rN a j) (nH j a j)) (UC 1000 (Cn a j a j))) (U4 (λk=>AQ (AO (Al a) AB AK (JG (AT (IE k) (ME j)) (kH k (BP j)) (iU k (BP j)) (tR k) (NF (BP j)) (pA (hU k (BP j)) AB AK (XU a) (XA a) (Me a) (Na a)))) (nG (oC k i) k (Dm (QH a a a a a a) (jF k) a (oW a k k) a k k a)) (E7 k))) (AO (tQ (Cn a j a j)) (CB (DJ 6 6) (SF (BP j)) (RX (BP j)) (TZ (BP j)) (AP (SH (BP j)) (Ic (BP j)) Vq (DJ 6 6) (SF (Lw j)) (RX (Lw j)) (TZ (Lw j)) (SH (Lw j)) (ADU (Lw j)))) (Wr 3 24) (U4 (λk=>NT (And (Al a) (Dg (TM (LM k) 1) (AT (IE k) (ME j)) (kH k (oM j)) (iU k (oM j)) (UZ (DX k) (oM j)) (hU k (oM j)) (RI AK AB (XU a) (XA a) (Me a) (Na a) (TM (LM k) 1) (AE (λl=>sE l (LM k) (JA j) (xD (CW (TP (Pu (oB a j) (Cn a j a j) (rN a j) (nH j a j)) (Cn a j a j)) (OP (BP j) 6))) (CP (TP (Pu (oB a j) (Cn a j a j) (rN a j) (nH j a j)) (Cn a j a j)) (Va (Lw j) 1 6))))))) (nG (oC k i) k (Dm (QH a a a a a a) (jF k) a (oW a k k) a k k a)) 0 (VA k))))))))) (WH (ANH (λj=>TD (And (nG (oC j i) j (Dm (QH a a a a a a) (jF j) a (oW a j j) a j j a)) (E7 j)) (U4 (λk=>NT (AO (Al a) AB AK (JG (On (IE k) (IE j)) (kH k (DX j)) (iU k (DX j)) (tR k) (tR j) (pA (hU k (DX j)) AB AK (XU a) (XA a) (Me a) (Na a)))) (And (Dm (QH a a a a a a) (IE k) a (tL a (IE k) k) a k k a) (E7 k)) (IE k) (IE i))))) (ANH (λj=>TD (And (nG (oC j i) j (Dm (QH a a a a a a) (jF j) a (oW a j j) a j j a)) (Iq (VA j))) (U4 (λk=>NT (And (Al a) (Dg (xV (LM k) j) (On (IE k) (IE j)) (kH k (DX j)) (iU k (DX j)) (UZ (DX k) (DX j)) (hU k (DX j)) (RI AK AB (XU a) (XA a) (Me a) (Na a) (xV (LM k) j) (JC (LM k) (LM j))))) (And (Dm (QH a a a a a a) (IE k) a (tL a (IE k) k) a k k a) (Iq (VA k))) (IE k) (IE i)))))) (AQ (BCF (ABZ 3) EB 3 aG Lo 24) (TM (mdG a) 1) (BU (AE (λj=>sE j (mdG a) 1 1 1)) (TI (Z0 a)) (TI (Z0 a)) (RY (bE a) 1) (AE (λj=>Mb j (KF (bE a)) (bE a) 0 0 1 1)) (JQ (Qg a) (DX i)) (λj=>Zs j (dH (Qg a)) (dH (DX i))) (UZ (Qg a) (DX i)) (SA (Qg a) (DX i)))))) (ANH (λi=>Km (And (Dm (QH a a a a a a) (IE i) a (tL a (IE i) i) a i i a) (Iq (VA i))) (Lc (IE i)) (CV (AI (AHE a)) (BEE (DX i) (tR i)) (BIU (λj=>NT (BW (Al a) AB (xV (LN j) i) (AT (ME j) (IE i)) (BC (IT j)) (BVF (JQ (BP j) (tF i a)) (MR (BP j) (tF i a)) (UZ (BP j) (tF i a)) (SA (BP j) (tF i a)) AB AK (Ec (XU a) (XA a) (Me a) (Na a) (AN (JA j) (OP (DX i) (AHE a))) AU (xV (LN j) i) (JC (LN j) (LM i))))) (And (QH a a a a a a) (AP (J9 (ME j) i) (ADE j) (L3 (ME j) a) (J7 17 a (ME j) (BP j)) (xU a (AAA j) (Ql (mC a (JA j)) (BP j) (JA j) (LN j))) (zJ (sP (Kf j) (ME j)) a) (Er (JA j) 199) (DC (IT j) (Du a)) (BB (ptM (LQ a) (JA j)) (ptK (LQ a) (JA j) (KO (Du a) (IT j)) (IT j))))) 0 (Kf j))) (BZQ (λj=>Wd (EM (QH a a a a a a) (AP (J9 (ME j) i) (ADE j) (L3 (ME j) a) (J7 17 a (ME j) (BP j)) (xU a (AAA j) (Ql (mC a (JA j)) (BP j) (JA j) (LN j))) (zJ (sP (Kf j) (ME j)) a) (Er (JA j) 199) (DC (IT j) (Du a)) (BB (ptM (LQ a) (JA j)) (ptK (LQ a) (JA j) (KO (Du a) (IT j)) (IT j)))) (Iq (Kf j))) (RN (RL (IT j) (B7 a)) (MZ (IT j) (LQ a))) (Wm (IC (RL (IT j) (B7 a)) (hd7 (ID (LQ a) (IT j)) (JA j))) (BIU (λk=>EO (BW (Al a) AB (HT (LN k) (LN j)) (AT (ME k) (ME j)) (AR (IT k) (IT j)) (BVF (JQ (BP k) (BP j)) (MR (BP k) (BP j)) (UZ (BP k) (BP j)) (SA (BP k) (BP j)) AB AK (Ec (XU a) (XA a) (Me a) (Na a) (AN (JA k) (JA j)) AU (HT (LN k) (LN j)) (JC (LN k) (LN j))))) (EM (QH a a a a a a) (AP (J9 (ME k) i) (ADE k) (L3 (ME k) a) (J7 17 a (ME k) (BP k)) (xU a (AAA k) (Ql (mC a (JA k)) (BP k) (JA k) (LN k))) (zJ (sP (Kf k) (ME k)) a) (Er (JA k) 199) (DC (IT k) (Du a)) (BB (ptM (LQ a) (JA k)) (ptK (LQ a) (JA k) (KO (Du a) (IT k)) (IT k)))) (Iq (Kf k))) (Du a) (IT k) (IT j))) (CL (IT j) (KF (Gr a))) (Ba (G9 (Pu (oB a j) (Cn a j a j) (rN a j) (nH j a j))) (hd94 (Pu (oB a j) (Cn a j a j) (rN a j) (nH j a j)) (UC 1000 (Cn a j a j))) (U4 (λk=>NT (And (Al a) (Dg (HT (LM k) (LN j)) (AT (IE k) (ME j)) (kH k (BP j)) (iU k (BP j)) (UZ (DX k) (BP j)) (hU k (BP j)) (RI AK AB (XU a) (XA a) (Me a) (Na a) (HT (LM k) (LN j)) (JC (LM k) (LN j))))) (nG (oC k i) k (Dm (QH a a a a a a) (jF k) a (oW a k k) a k k a)) 0 (VA k))) (AO (tQ (Cn a j a j)) (CB (DJ 6 6) (SF (BP j)) (RX (BP j)) (TZ (BP j)) (AP (SH (BP j)) (Ic (BP j)) Vq (DJ 6 6) (SF (Lw j)) (RX (Lw j)) (TZ (Lw j)) (SH (Lw j)) (ADU (Lw j)))) (AAN (Kf j) 3 24) (U4 (λk=>NT (And (Al a) (Dg (TM (LM k) (uL (LN j))) (AT (IE k) (ME j)) (kH k (oM j)) (iU k (oM j)) (UZ (DX k) (oM j)) (hU k (oM j)) (RI AK AB (XU a) (XA a) (Me a) (Na a) (TM (LM k) (uL (LN j))) (AE (λl=>sE l (LM k) (BF l (Kf j) (IH (LN j) l) (JA j)) (BF l (Kf j) (IV (LN j) l) (xD (CW (TP (Pu (oB a j) (Cn a j a j) (rN a j) (nH j a j)) (Cn a j a j)) (OP (BP j) 6)))) (BF l (Kf j) (JP (LN j) l) (CP (TP (Pu (oB a j) (Cn a j a j) (rN a j) (nH j a j)) (Cn a j a j)) (Va (Lw j) 1 6)))))))) (nG (oC k i) k (Dm (QH a a a a a a) (jF k) a (oW a k k) a k k a)) 0 (VA k))))))))) (WH (ANH (λj=>TD (And (nG (oC j i) j (Dm (QH a a a a a a) (jF j) a (oW a j j) a j j a)) (E7 j)) (U4 (λk=>NT (AO (Al a) AB AK (JG (On (IE k) (IE j)) (kH k (DX j)) (iU k (DX j)) (tR k) (tR j) (pA (hU k (DX j)) AB AK (XU a) (XA a) (Me a) (Na a)))) (And (Dm (QH a a a a a a) (IE k) a (tL a (IE k) k) a k k a) (E7 k)) (IE k) (IE i))))) (ANH (λj=>TD (And (nG (oC j i) j (Dm (QH a a a a a a) (jF j) a (oW a j j) a j j a)) (Iq (VA j))) (U4 (λk=>NT (And (Al a) (Dg (xV (LM k) j) (On (IE k) (IE j)) (kH k (DX j)) (iU k (DX j)) (UZ (DX k) (DX j)) (hU k (DX j)) (RI AK AB (XU a) (XA a) (Me a) (Na a) (xV (LM k) j) (JC (LM k) (LM j))))) (And (Dm (QH a a a a a a) (IE k) a (tL a (IE k) k) a k k a) (Iq (VA k))) (IE k) (IE i)))))) (YL (xY (VA i)) (AQ (BCF (aB (VA i) 3) EB 3 aG (mM (VA i)) (nB (VA i) 24)) (TM (mdG a) (HN (VA i))) (BU (AE (λj=>sE j (mdG a) (BF j (VA i) (IH (LM i) j) 1) (BF j (VA i) (IV (LM i) j) 1) (BF j (VA i) (JP (LM i) j) 1))) (TI (Z0 a)) (TI (Z0 a)) (RY (bE a) 1) (AE (λj=>Mb j (KF (bE a)) (bE a) 0 0 1 1)) (JQ (Qg a) (DX i)) (λj=>Zs j (dH (Qg a)) (dH (DX i))) (UZ (Qg a) (DX i)) (SA (Qg a) (DX i)))) (DK (xV (mdG a) i) (AJ (VA i)) (VA i) (BU (AE (λj=>AIJ j (mdG a) (IH (LM i) (AJ j)) (IV (LM i) (AJ j)) (LM i) (AJ j))) (BH (Z0 a) (LQ a)) (BO (Z0 a) (LQ a)) (Wp (bE a) (Gr a)) (gS (KF (bE a)) (bE a) (Gr a)) (JQ (Qg a) (DX i)) (λj=>Zs j (dH (Qg a)) (dH (DX i))) (UZ (Qg a) (DX i)) (SA (Qg a) (DX i))))))))))):=by kernel_rfl
theorem AYH(s:Stm):Stm.mk s.bs s.used s.mix=s:=rfl
theorem Jz{K:Int}{s:Stm}(h:StmB K s)(hK:K<=1000000000000000)(lo hi:Int):StmB (K+1) (kQ s lo hi):=h.next hK _
theorem BOM{a:MkI}{y:KB}(h:wL a y)(hk:0<y.k):wL a ⟨y.k-1,stpB y.x⟩:=by
 obtain⟨h1,h2,h3,h4,h5,h6⟩:=h
 have hw:=dD h2 (by omega) (lo:=5) (hi:=60) (by omega) (by omega) (by omega)
 have ha:wr (y.x.a+Jt y.x.s 5 60)=y.x.a+Jt y.x.s 5 60:=ER (by omega) (by omega)
 refine⟨by show y.k-1<=2;omega,?_,?_,?_,?_,?_⟩
 ·have:=Jz h2 (by omega) 5 60
  exact this.mono (by show _<=3-((y.k-1:Nat):Int);omega)
 ·obtain⟨k,hk2⟩:∃k,y.k=k+1:=⟨y.k-1,by omega⟩
  rw[hk2] at h3 ⊢;exact h3
 ·show (((y.x.b ++ [_]).length:Nat):Int)+((y.k-1:Nat):Int)<=2
  rw[List.length_append,List.length_singleton];omega
 ·show 0<=wr _;rw[ha];omega
 ·show wr _<=60*(2-((y.k-1:Nat):Int));rw[ha];omega
theorem CIJ{a:MkI}{y:KB}(h:wL a y)(hk:¬0<y.k):y.x=mB a.s/\wL a ⟨0,mB a.s⟩:=by
 obtain⟨k,x⟩:=y
 have hk:k=0:=by have:¬0<k:=hk;omega
 subst hk
 have e:x=mB a.s:=h.2.2.1
 exact⟨e,e ▸ h⟩
theorem CKP{K:Int}{s:Stm}(h:StmB K s)(hK:K<=100000):okMk (mkLn s)/\StmB (K+4) (lnS4 s):=by
 have h1:=h.next (by omega) 40
 have h2:=h1.next (by omega) 60
 have h3:=Jz h2 (by omega) 1 60
 have h4:=h3.next (by omega) 200
 have v1:=VR h (by omega) 40
 have v2:=VR h1 (by omega) 60
 have v3:=dD h2 (by omega) (lo:=1) (hi:=60) (by omega) (by omega) (by omega)
 have v4:=VR h3 (by omega) 200
 have a1:=v1.2 (by omega)
 have a2:=v2.2 (by omega)
 have a4:=v4.2 (by omega)
 have e1:wr (BS s 40+Jt (lnS2 s) 1 60)=BS s 40+Jt (lnS2 s) 1 60:=by unfold lnS2 lnS1;exact ER (by omega) (by omega)
 have e2:wr (BS (lnS1 s) 60+BS (lnS3 s) 200)=BS (lnS1 s) 60+BS (lnS3 s) 200:=by unfold lnS3 lnS2 lnS1;exact ER (by omega) (by omega)
 refine⟨?_,h4.mono (by omega)⟩
 unfold okMk mkLn
 simp only[e1,e2]
 unfold lnS3 lnS2 lnS1
 omega
theorem BNX{a:MkI}{y:KL}(h:inv9 a y)(hk:y.k<=(mB a.s).b.length):inv9 a ⟨y.k+1,stpL y.x⟩:=by
 obtain⟨h0,h1,h2,h3,h4,h5⟩:=h
 have hb:((mB a.s).b.length:Int)<=2:=by have:(((mB a.s).b.length:Nat):Int)+((0:Nat):Int)<=2:=h0.2.2.2.1;omega
 obtain⟨o1,o2⟩:=CKP h2 (by omega)
 refine⟨h0,by show y.k+1<=_;omega,o2.mono (by show _<=3+4*((y.k+1:Nat):Int);omega),?_,?_,?_⟩
 ·obtain⟨n,hn⟩:∃n,(mB a.s).b.length+1-y.k=n+1:=⟨(mB a.s).b.length-y.k,by omega⟩
  rw[hn] at h3
  show mkL ((mB a.s).b.length+1-(y.k+1)) (stpL y.x)=_
  rw[show (mB a.s).b.length+1-(y.k+1)=n by omega];exact h3
 ·show (y.x.l ++ [_]).length=y.k+1;rw[List.length_append,h4];rfl
 ·intro z hz
  rcases List.mem_append.1 hz with hz | hz
  ·exact h5 z hz
  ·rw[List.mem_singleton.1 hz];exact o1
theorem CTN{a:MkI}{y:KL}(h:inv9 a y)(hk:¬y.k<=(mB a.s).b.length):y.x=mL a.s/\fin9 a:=by
 obtain⟨k,x⟩:=y
 have hk1:k<=(mB a.s).b.length+1:=h.2.1
 have hk:k=(mB a.s).b.length+1:=by have:¬k<=(mB a.s).b.length:=hk;omega
 subst hk
 have e:x=mL a.s:=by
  have:=h.2.2.2.1
  rw[show (mB a.s).b.length+1-((mB a.s).b.length+1)=0 by omega] at this;exact this
 exact⟨e,show inv9 a ⟨_,mL a.s⟩ from e ▸ h⟩
theorem BCP{b:List Int}{t:Int}:∀(n k:Nat),k<=ptK b t n k/\ptK b t n k<=k+n
 |0,k=>⟨Nat.le_refl _,Nat.le_refl _⟩
 |n+1,k=>by
  unfold ptK
  cases decide (gD b k<=t)
  ·exact⟨Nat.le_refl _,by show k<=_;omega⟩
  ·have:=BCP (b:=b) (t:=t) n (k+1);show k<=ptK b t n (k+1)/\ptK b t n (k+1)<=_;omega
theorem CDK{b:List Int}{t:Int}{p:Nat}(h:(bif decide (p<b.length) then decide (gD b p<=t) else false)=true):p<b.length/\ptK b t (b.length-p) p=ptK b t (b.length-(p+1)) (p+1):=by
 cases hd:decide (p<b.length) with
 |false=>rw[hd] at h;cases h
 |true=>
  rw[hd] at h
  have hp:=of_decide_eq_true hd
  refine⟨hp,?_⟩
  obtain⟨n,hn⟩:∃n,b.length-p=n+1:=⟨b.length-p-1,by omega⟩
  rw[hn,show b.length-(p+1)=n by omega]
  conv=>lhs;unfold ptK
  rw[show decide (gD b p<=t)=true from h];rfl
theorem CNM{b:List Int}{t:Int}{p:Nat}(h:(bif decide (p<b.length) then decide (gD b p<=t) else false)=false)(hp:p<=b.length):ptK b t (b.length-p) p=p:=by
 cases hd:decide (p<b.length) with
 |false=>rw[show b.length-p=0 by have:=of_decide_eq_false hd;omega];rfl
 |true=>
  rw[hd] at h
  have hp:=of_decide_eq_true hd
  obtain⟨n,hn⟩:∃n,b.length-p=n+1:=⟨b.length-p-1,by omega⟩
  rw[hn];unfold ptK;rw[show decide (gD b p<=t)=false from h];rfl
theorem AWI{a:MkI}(h:fin9 a):((mB a.s).b.length:Int)<=2/\(0<=(mB a.s).a/\(mB a.s).a<=120)/\(mL a.s).l.length=(mB a.s).b.length+1/\(∀z∈(mL a.s).l,okMk z)/\StmB 15 (mL a.s).s:=by
 obtain⟨h0,h1,h2,h3,h4,h5⟩:=h
 have hb:(((mB a.s).b.length:Nat):Int)+((0:Nat):Int)<=2:=h0.2.2.2.1
 have h6:0<=(mB a.s).a:=h0.2.2.2.2.1
 have h7:(mB a.s).a<=60*(2-((0:Nat):Int)):=h0.2.2.2.2.2
 exact⟨by omega,⟨h6,by omega⟩,h4,h5,h2.mono (by show 3+4*(((mB a.s).b.length+1:Nat):Int)<=15;omega)⟩
theorem BMU{a:MkI}(h:fin9 a):hiG a=(mB a.s).a+80:=by
 obtain⟨_,h2,_⟩:=AWI h
 exact ER (by omega) (by omega)
theorem G_in{a:MkI}{k:Nat}{x:MG}(h:T6 a k x)(hm:a.m<=100)(hk:0<k):T5 a k ⟨k,⟨DI x.s (hiG a),x.l⟩,BS x.s (hiG a),0⟩:=by
 obtain⟨h0,h1,h2,h3,h4⟩:=h
 have hv:=VR h2 (by omega) (hiG a)
 obtain⟨_,h6,_⟩:=AWI h0
 rw[BMU h0] at hv
 have:=hv.2 (by omega)
 refine⟨h0,rfl,hk,h1,(h2.next (by omega) _).mono (by show _<=17+3*(a.m-(k:Int));omega),?_,h4,?_,Nat.zero_le _,rfl⟩
 ·obtain⟨n,hn⟩:∃n,k=n+1:=⟨k-1,by omega⟩
  subst hn;exact h3
 ·rw[BMU h0];exact⟨hv.1,by show BS x.s ((mB a.s).a+80)<=199;omega⟩
theorem AQR{x:Ln}{t:Int}(h:okMk x)(ht:0<=t/\t<=199):U0 x=x.b0-x.a0/\vV x t=x.a1*(x.b0-x.a0)+(x.b1-x.a1)*(t-x.a0)/\wr (1000*U0 x)=1000*U0 x /\ -100000<=vV x t/\vV x t<=100000:=by
 obtain⟨h1,h2,h3,h4⟩:=h
 have m1:0<=x.a1*(x.b0-x.a0):=Int.mul_nonneg (by omega) (by omega)
 have m2:x.a1*(x.b0-x.a0)<=59*60:=Int.mul_le_mul (by omega) (by omega) (by omega) (by omega)
 have m3:(x.b1-x.a1)*(t-x.a0)<=199*199:=Int.le_trans (Int.mul_le_mul_of_nonneg_left (show t-x.a0<=199 by omega) (by omega)) (Int.mul_le_mul_of_nonneg_right (by omega) (by omega))
 have m4:-(199*39)<=(x.b1-x.a1)*(t-x.a0):=by
  have e1:=Int.mul_le_mul_of_nonneg_left (show -39<=t-x.a0 by omega) (show 0<=x.b1-x.a1 by omega)
  have e2:=Int.mul_le_mul_of_nonneg_right (show x.b1-x.a1<=199 by omega) (show (0:Int)<=39 by omega)
  rw[Int.mul_neg] at e1
  omega
 have w1:wr (x.b0-x.a0)=x.b0-x.a0:=ER (by omega) (by omega)
 have w2:wr (x.a1*(x.b0-x.a0))=x.a1*(x.b0-x.a0):=ER (by omega) (by omega)
 have w3:wr (x.b1-x.a1)=x.b1-x.a1:=ER (by omega) (by omega)
 have w4:wr (t-x.a0)=t-x.a0:=ER (by omega) (by omega)
 have w5:wr ((x.b1-x.a1)*(t-x.a0))=(x.b1-x.a1)*(t-x.a0):=ER (by omega) (by omega)
 have w6:wr (x.a1*(x.b0-x.a0)+(x.b1-x.a1)*(t-x.a0))=x.a1*(x.b0-x.a0)+(x.b1-x.a1)*(t-x.a0):=ER (by omega) (by omega)
 have e1:U0 x=x.b0-x.a0:=w1
 have e2:vV x t=x.a1*(x.b0-x.a0)+(x.b1-x.a1)*(t-x.a0):=by unfold vV;rw[w1,w2,w3,w4,w5,w6]
 refine⟨e1,e2,?_,by omega,by omega⟩
 rw[e1];exact ER (by omega) (by omega)
theorem CSI{a:MkI}{m:Nat}{y:KP}(h:T5 a m y)(hm:a.m<=100):H6 a m ⟨y.k,Ql (mC a y.t) y.x.s y.t y.x.l⟩:=by
 obtain⟨h0,h1,h2,h3,h4,h5,h6,h7,h8,h9⟩:=h
 have hs:=h4.next (by omega) 6
 have hs2:=Jz hs (by omega) 1 6
 refine⟨h1,h2,h0,by show ((y.k-1:Nat):Int)<=_;omega,?_,h5,?_⟩
 ·show StmB (16+3*(a.m-((y.k-1:Nat):Int))) (Ql _ _ _ _).s
  unfold Ql
  cases (bif decide (vV (mC a y.t) y.t<0) then true else decide (vV (mC a y.t) y.t>wr (1000*U0 (mC a y.t))))
  ·exact hs2.mono (by omega)
  ·exact h4.mono (by omega)
 ·show (((Ql _ _ _ _).l.length:Nat):Int)+((y.k-1:Nat):Int)<=a.m
  unfold Ql
  cases (bif decide (vV (mC a y.t) y.t<0) then true else decide (vV (mC a y.t) y.t>wr (1000*U0 (mC a y.t))))
  ·show (((y.x.l ++ [_]).length:Nat):Int)+_<=_
   rw[List.length_append,List.length_singleton];omega
  ·show ((y.x.l.length:Nat):Int)+_<=_;omega
theorem G_up{a:MkI}{m:Nat}{y:KP}(h:T5 a m y)(hp:(bif decide (y.p<(mB a.s).b.length) then decide (gD (mB a.s).b y.p<=y.t) else false)=true):T5 a m ⟨y.k,y.x,y.t,y.p+1⟩:=by
 obtain⟨h0,h1,h2,h3,h4,h5,h6,h7,h8,h9⟩:=h
 obtain⟨p1,p2⟩:=CDK hp
 exact⟨h0,h1,h2,h3,h4,h5,h6,h7,p1,h9.trans p2⟩
theorem G_at{a:MkI}{m:Nat}{y:KP}(h:T5 a m y)(hp:(bif decide (y.p<(mB a.s).b.length) then decide (gD (mB a.s).b y.p<=y.t) else false)=false):mC a y.t=gD (mL a.s).l y.p/\y.p<(mL a.s).l.length:=by
 obtain⟨h0,h1,h2,h3,h4,h5,h6,h7,h8,h9⟩:=h
 obtain⟨_,_,g3,_⟩:=AWI h0
 exact⟨by unfold mC;rw[h9.trans (CNM hp h8)],by omega⟩
theorem CHI{a:MkI}{m:Nat}{y:KP}(h:T5 a m y):okMk (mC a y.t):=by
 obtain⟨h0,h1,h2,h3,h4,h5,h6,h7,h8,h9⟩:=h
 obtain⟨_,_,g3,g4,_⟩:=AWI h0
 have:=BCP (b:=(mB a.s).b) (t:=y.t) (mB a.s).b.length 0
 unfold mC
 exact g4 _ (FD (by rw[g3];unfold ptM;omega))
theorem CWW(a:MkI)(h:preM a):BYJ a:=by
 rw[COQ]<;> dsimp only[go_sem];simp only[CC,CU,AYH,Int.ofNat_lt]
 obtain⟨hs,hm1,hm2⟩:=h
 have hn:=VR hs (by omega) 3
 have hn2:=hn.2 (by omega)
 have hk0:((BS a.s 3).toNat:Int)=BS a.s 3:=Int.toNat_of_nonneg hn.1
 have i0:wL a ⟨(BS a.s 3).toNat,⟨DI a.s 3,0,[]⟩⟩:=⟨by show (BS a.s 3).toNat<=2;omega,(hs.next (by omega) 3).mono (by show _<=3-(((BS a.s 3).toNat:Nat):Int);omega),rfl,by show ((0:Nat):Int)+((BS a.s 3).toNat:Nat)<=2;omega,Int.le_refl _,by show 0<=60*(2-(((BS a.s 3).toNat:Nat):Int));omega⟩
 have w1:∀{y:KB},wL a y->0<y.k->((y.k-1:Nat):Int)=IntKind.i64.wrap ((y.k:Int)-1):=λ{y} hy hk=>by
  have:=hy.1
  rw[ER (by omega) (by omega)];omega
 refine⟨⟨⟨rfl,hs.used.1⟩,⟨⟨_,⟨DI a.s 3,0,[]⟩⟩,⟨rfl,hk0,rfl,λ_ _=>rfl,rfl,rfl⟩,i0,rfl⟩,λy ⟨hy,hyb⟩=>⟨λhk=>?_,λhk=>?_⟩,λy hy=>⟨λhk=>?_,λhk=>?_⟩⟩,λhB=>⟨⟨⟨⟨0,⟨(mB a.s).s,[]⟩⟩,⟨rfl,rfl,λ_ _=>rfl,rfl,rfl⟩,?_,rfl⟩,λy ⟨hy,hy0⟩=>⟨λhk=>?_,λhk=>?_⟩,λy hy=>⟨λhk=>?_,λhk=>?_⟩⟩,λhL=>?_⟩⟩
 ·have hk:0<y.k:=by omega
  have hy2:wL a y:=hy
  have ey:stpB y.x=⟨kQ y.x.s 5 60,wr (y.x.a+Jt y.x.s 5 60),[wr (y.x.a+Jt y.x.s 5 60)]⟩:=by unfold stpB;rw[hyb];rfl
  refine⟨⟨rfl,rfl,hy2.2.1.used.1⟩,⟨by omega,by omega,by omega,by omega,by omega⟩,⟨y.k-1,stpB y.x⟩,?_,BOM hy2 hk,by show y.k-1<y.k+1;omega⟩
  rw[ey]
  exact⟨rfl,w1 hy2 hk,rfl,λ_ _=>rfl,rfl,rfl,rfl,rfl,λi hi=>by rw[show i=0 by have h1:i<1:=hi;omega];rfl⟩
 ·obtain⟨e1,e2⟩:=CIJ (show wL a y from hy) (by omega)
  exact⟨default,by rw[<-e1,hyb];exact⟨rfl,rfl,λ_ _=>rfl,rfl,rfl,rfl⟩,e2⟩
 ·have hk:0<y.k:=by omega
  have hy2:wL a y:=hy
  have:=hy2.2.2.2.1
  refine⟨⟨rfl,rfl,hy2.2.1.used.1⟩,⟨by omega,λh=>(by cases h),by omega,by omega⟩,⟨y.k-1,stpB y.x⟩,⟨rfl,w1 hy2 hk,rfl,λ_ _=>rfl,rfl,rfl,?_,?_,CTM _ _⟩,BOM hy2 hk,by show y.k-1<y.k;omega⟩<;>(show (y.x.b ++ [_]).length=_;simp)
 ·obtain⟨e1,e2⟩:=CIJ (show wL a y from hy) (by omega)
  exact⟨default,by rw[<-e1];exact⟨rfl,rfl,λ_ _=>rfl,rfl,rfl,rfl,Nat.le_refl _,λ_ _=>rfl⟩,e2⟩
 ·exact⟨hB,Nat.zero_le _,(show StmB (3-((0:Nat):Int)) (mB a.s).s from hB.2.1).mono (by show _<=3+4*((0:Nat):Int);omega),rfl,rfl,λz hz=>by cases hz⟩
 ·have hy2:inv9 a y:=hy
  have hk:y.k<=(mB a.s).b.length:=by omega
  have s0:=hy2.2.2.1
  have s1:=s0.next (by omega) 40
  have s2:=s1.next (by omega) 60
  have s3:=Jz s2 (by omega) 1 60
  have hl:y.x.l=[]:=List.eq_nil_of_length_eq_zero (by rw[hy2.2.2.2.2.1];exact hy0)
  have ey:stpL y.x=⟨lnS4 y.x.s,[mkLn y.x.s]⟩:=by unfold stpL;rw[hl];rfl
  refine⟨⟨rfl,s0.used.1,rfl,s1.used.1⟩,⟨rfl,rfl,s2.used.1,rfl,s3.used.1⟩,⟨by omega,by omega,by omega,by omega,by omega⟩,⟨y.k+1,stpL y.x⟩,?_,BNX hy2 hk,by show (mB a.s).b.length+1-(y.k+1)<_;omega⟩
  rw[ey]
  exact⟨(BJ (by omega)).symm,rfl,λ_ _=>rfl,rfl,rfl,rfl,rfl,oneL _⟩
 ·have hy0:y.k=0:=hy0
  omega
 ·have hy2:inv9 a y:=hy
  have hk:y.k<=(mB a.s).b.length:=by omega
  have hb:(((mB a.s).b.length:Nat):Int)+((0:Nat):Int)<=2:=hB.2.2.2.1
  have s0:=hy2.2.2.1
  have s1:=s0.next (by omega) 40
  have s2:=s1.next (by omega) 60
  have s3:=Jz s2 (by omega) 1 60
  have hl:=hy2.2.2.2.2.1
  refine⟨⟨rfl,s0.used.1,rfl,s1.used.1⟩,⟨rfl,rfl,s2.used.1,rfl,s3.used.1⟩,⟨by omega,λh=>(by cases h),by omega,by omega⟩,⟨y.k+1,stpL y.x⟩,⟨(BJ (by omega)).symm,rfl,λ_ _=>rfl,rfl,rfl,?_,?_,BRU _ _⟩,BNX hy2 hk,by show (mB a.s).b.length+1-(y.k+1)<_;omega⟩<;>(show (y.x.l ++ [_]).length=_;simp)
 ·obtain⟨e1,e2⟩:=CTN (show inv9 a y from hy) (by omega)
  exact⟨default,by rw[<-e1];exact⟨rfl,λ_ _=>rfl,rfl,rfl,rfl,Nat.le_refl _,λ_ _=>⟨rfl,rfl,rfl,rfl⟩⟩,e2⟩
 ·have hF:fin9 a:=hL
  obtain⟨g1,g2,g3,g4,g5⟩:=AWI hF
  have hw:=dD g5 (by omega) (lo:=1) (hi:=a.m) (by omega) hm1 (by omega)
  have hwk:((Jt (mL a.s).s 1 a.m).toNat:Int)=Jt (mL a.s).s 1 a.m:=Int.toNat_of_nonneg (by omega)
  have i16:T6 a (Jt (mL a.s).s 1 a.m).toNat (mG0 a):=⟨hF,by omega,(Jz g5 (by omega) 1 a.m).mono (by omega),rfl,by show ((0:Nat):Int)+_<=_;omega⟩
  have hwr:IntKind.i64.wrap ((mB a.s).a+80)=hiG a:=rfl
  simp only[hwr]
  have nx:∀{m:Nat} {z:KG},H6 a m z->T6 a (z.k-1) z.x/\z.k-1<m/\((z.k-1:Nat):Int)=IntKind.i64.wrap ((z.k:Int)-1):=λ{m} {z} h=>by
   obtain⟨h1,h2,h3⟩:=h
   have h4:((z.k-1:Nat):Int)<=a.m:=h3.2.1
   exact⟨h3,by omega,by rw[ER (by omega) (by omega)];omega⟩
  have em:∀{y:MG},y=mG a->y.l=[]->mdG a=[⟨1,1,1⟩]/\mdR a=⟨[],[⟨0,0,1,1⟩]⟩:=λ{y} h h2=>by
   unfold mdG mdR;rw[<-h,h2];exact⟨rfl,rfl⟩
  have fl:∀{y:MG},y=mG a->0<y.l.length->mdG a=y.l/\mdR a=⟨(mB a.s).b,(mL a.s).l⟩:=λ{y} h h2=>by
   unfold mdG mdR;rw[<-h,decide_eq_false (by omega)];exact⟨rfl,rfl⟩
  refine⟨⟨rfl,g5.used.1⟩,⟨⟨_,mG0 a⟩,⟨hwk,rfl,λ_ _=>rfl,rfl,rfl⟩,i16,rfl⟩,λy ⟨hy,hyl⟩=>⟨λhk=>⟨⟨(show T6 a y.k y.x from hy).2.2.1.used.1,⟨⟨y.k,⟨DI y.x.s (hiG a),y.x.l⟩,BS y.x.s (hiG a),0⟩,⟨rfl,rfl,rfl,λ_ _=>rfl,rfl,rfl,rfl⟩,G_in hy hm2 (by omega),hyl⟩,λz ⟨hz,hzl⟩=>⟨λ_=>⟨by omega,by omega⟩,λhp=>?_,λhp=>?_⟩⟩,λz ⟨hz,hzl⟩=>?_,λz ⟨hz,hzl⟩=>?_⟩,λhk=>?_⟩,λy ⟨hy,hyl⟩=>⟨λhk=>?_,λhk=>?_⟩⟩
  ·exact⟨⟨z.k,z.x,z.t,z.p+1⟩,⟨rfl,(BJ (by omega)).symm,rfl,λ_ _=>rfl,rfl,rfl,rfl⟩,⟨G_up hz hp,hzl⟩,by have:=(CDK hp).1;show (mB a.s).b.length-(z.p+1)<_;omega⟩
  ·obtain⟨e,e2⟩:=G_at hz hp
   have ho:=CSI hz hm2
   have okl:=CHI hz
   have hI:T5 a _ z:=hz
   have zs:=hI.2.2.2.2.1
   have zs1:=zs.next (by omega) 6
   have zl:(z.x.l.length:Int)+z.k<=a.m:=hI.2.2.2.2.2.2.1
   have bw:=(AQR okl hI.2.2.2.2.2.2.2.1).1
   rw[<-e]
   refine⟨⟨by omega,by omega⟩,λhu=>?_,λhu=>?_⟩
   ·have hu:(bif decide (vV (mC a z.t) z.t<0) then true else decide (vV (mC a z.t) z.t>wr (1000*U0 (mC a z.t))))=true:=hu
    have es:Ql (mC a z.t) z.x.s z.t z.x.l=z.x:=by unfold Ql;rw[hu];rfl
    rw[es] at ho
    exact⟨⟨z.k,z.x⟩,⟨rfl,rfl,λ_ _=>rfl,rfl,rfl⟩,ho,hzl⟩
   ·have hu:(bif decide (vV (mC a z.t) z.t<0) then true else decide (vV (mC a z.t) z.t>wr (1000*U0 (mC a z.t))))=false:=hu
    have es:Ql (mC a z.t) z.x.s z.t z.x.l=⟨kQ (DI z.x.s 6) 1 6,[oR (mC a z.t) z.x.s z.t]⟩:=by unfold Ql;rw[hu,show z.x.l=[] from hzl];rfl
    rw[es] at ho
    refine⟨λh0=>?_,⟨rfl,zs.used.1,rfl,rfl,zs1.used.1⟩,⟨by omega,by omega,by omega,by omega,by omega⟩,⟨z.k,⟨kQ (DI z.x.s 6) 1 6,[oR (mC a z.t) z.x.s z.t]⟩⟩,⟨rfl,rfl,rfl,λ_ _=>rfl,rfl,rfl,rfl,λi hi=>by rw[show i=0 by have h1:i<1:=hi;omega];exact⟨rfl,rfl,rfl⟩⟩,ho,Nat.one_pos⟩
    have h0:U0 (mC a z.t)=0:=h0
    have:=okl.2.1;omega
  ·obtain⟨n1,n2,n3⟩:=nx (show H6 a _ z from hz)
   exact⟨⟨z.k-1,z.x⟩,⟨n3,rfl,λ_ _=>rfl,rfl,rfl⟩,⟨n1,hzl⟩,n2⟩
  ·obtain⟨n1,n2,n3⟩:=nx (show H6 a _ z from hz)
   exact⟨⟨z.k-1,z.x⟩,⟨rfl,n3,rfl,λ_ _=>rfl,rfl,rfl,rfl,λ_ _=>⟨rfl,rfl,rfl⟩⟩,⟨n1,hzl⟩,n2⟩
  ·have hI:T6 a y.k y.x:=hy
   have e0:y.x=mG a:=by
    have:=hI.2.2.2.1
    rw[show y.k=0 by omega] at this;exact this
   obtain⟨m1,m2⟩:=em e0 hyl
   rw[m1,m2,<-e0]
   refine⟨⟨by omega,λh=>(by cases h),by omega,by omega⟩,rfl,λi hi=>?_,rfl,rfl,rfl,λi hi=>?_,rfl,λ_ _=>rfl,rfl,rfl⟩
   ·rw[show i=0 by have h1:i<1:=hi;omega];exact⟨rfl,rfl,rfl⟩
   ·rw[show i=0 by have h1:i<1:=hi;omega];exact⟨rfl,rfl,rfl,rfl⟩
  ·have hI:T6 a y.k y.x:=hy
   refine⟨⟨hI.2.2.1.used.1,⟨⟨y.k,⟨DI y.x.s (hiG a),y.x.l⟩,BS y.x.s (hiG a),0⟩,⟨rfl,rfl,rfl,rfl,λ_ _=>rfl,rfl,rfl,rfl,rfl,λ_ _=>⟨rfl,rfl,rfl⟩⟩,G_in hy hm2 (by omega),hyl⟩,λz ⟨hz,hzl⟩=>⟨λ_=>⟨by omega,by omega⟩,λhp=>?_,λhp=>?_⟩⟩,λz ⟨hz,hzl⟩=>?_,λz ⟨hz,hzl⟩=>?_⟩
   ·exact⟨⟨z.k,z.x,z.t,z.p+1⟩,⟨rfl,rfl,(BJ (by omega)).symm,rfl,λ_ _=>rfl,rfl,rfl,rfl,rfl,λ_ _=>⟨rfl,rfl,rfl⟩⟩,⟨G_up hz hp,hzl⟩,by have:=(CDK hp).1;show (mB a.s).b.length-(z.p+1)<_;omega⟩
   ·obtain⟨e,e2⟩:=G_at hz hp
    have ho:=CSI hz hm2
    have okl:=CHI hz
    have hI:T5 a _ z:=hz
    have zs:=hI.2.2.2.2.1
    have zs1:=zs.next (by omega) 6
    have zl:(z.x.l.length:Int)+z.k<=a.m:=hI.2.2.2.2.2.2.1
    have bw:=(AQR okl hI.2.2.2.2.2.2.2.1).1
    rw[<-e]
    refine⟨⟨by omega,by omega⟩,λhu=>?_,λhu=>?_⟩
    ·have hu:(bif decide (vV (mC a z.t) z.t<0) then true else decide (vV (mC a z.t) z.t>wr (1000*U0 (mC a z.t))))=true:=hu
     have es:Ql (mC a z.t) z.x.s z.t z.x.l=z.x:=by unfold Ql;rw[hu];rfl
     rw[es] at ho
     exact⟨⟨z.k,z.x⟩,⟨rfl,rfl,rfl,λ_ _=>rfl,rfl,rfl,rfl,λ_ _=>⟨rfl,rfl,rfl⟩⟩,ho,hzl⟩
    ·have hu:(bif decide (vV (mC a z.t) z.t<0) then true else decide (vV (mC a z.t) z.t>wr (1000*U0 (mC a z.t))))=false:=hu
     have es:Ql (mC a z.t) z.x.s z.t z.x.l=⟨kQ (DI z.x.s 6) 1 6,z.x.l ++ [oR (mC a z.t) z.x.s z.t]⟩:=by unfold Ql;rw[hu];rfl
     rw[es] at ho
     refine⟨λh0=>?_,⟨rfl,zs.used.1,rfl,rfl,zs1.used.1⟩,⟨by omega,λh=>(by cases h),by omega,by omega⟩,⟨z.k,⟨kQ (DI z.x.s 6) 1 6,z.x.l ++ [oR (mC a z.t) z.x.s z.t]⟩⟩,⟨by simp,rfl,rfl,λ_ _=>rfl,rfl,rfl,by simp,CUH _ _⟩,ho,by show 0<(z.x.l ++ [_]).length;simp⟩
     have h0:U0 (mC a z.t)=0:=h0
     have:=okl.2.1;omega
   ·obtain⟨n1,n2,n3⟩:=nx (show H6 a _ z from hz)
    exact⟨⟨z.k-1,z.x⟩,⟨n3,rfl,λ_ _=>rfl,rfl,rfl⟩,⟨n1,hzl⟩,n2⟩
   ·obtain⟨n1,n2,n3⟩:=nx (show H6 a _ z from hz)
    exact⟨⟨z.k-1,z.x⟩,⟨rfl,n3,rfl,λ_ _=>rfl,rfl,rfl,rfl,λ_ _=>⟨rfl,rfl,rfl⟩⟩,⟨n1,hzl⟩,n2⟩
  ·have hI:T6 a y.k y.x:=hy
   have e0:y.x=mG a:=by
    have:=hI.2.2.2.1
    rw[show y.k=0 by omega] at this;exact this
   obtain⟨m1,m2⟩:=fl e0 hyl
   rw[m1,m2,<-e0]
   refine⟨λhc=>?_,λ_=>⟨rfl,Nat.le_refl _,λ_ _=>⟨rfl,rfl,rfl⟩,rfl,λ_ _=>rfl,rfl,λ_ _=>⟨rfl,rfl,rfl,rfl⟩,rfl,λ_ _=>rfl,rfl,rfl⟩⟩
   have hc:((y.x.l.length:Nat):Int)=0:=by simpa using hc
   omega
theorem CKM:AH ZP 6 (C_Made.spec dMkI):=MK C_Made CHF [] [303] Tryz.func6 (λ_=>by kernel_rfl) (λ_=>AA BAD (AA AVA AD)) (λ(a:MkI) h=>CWW a (show preM a/\True from h).1) (λ_=>OA rfl rfl) _
end Go.Bal
