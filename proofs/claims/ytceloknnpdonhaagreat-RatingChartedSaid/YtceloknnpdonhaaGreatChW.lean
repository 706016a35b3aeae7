/- Package chart: charts and truths that are made of numbers. -/
import Derived.Test.YtceloknnpdonhaaGreatChJ
set_option linter.unusedVariables false
set_option linter.unusedSimpArgs false
namespace Go.Bal
open Go Go.Sym Go.Proofs
structure MkIQ where
 s:StmQ
 m:Int
 b:Bool
def DLE(b:Bool):List AVal->Heap->Option (MkIQ×List (Nat×Nat)×List Nat)
 |[.bptr p _,.d (.v (.int _ n)),.d (.v (.bool c))],H=>match c==b,BXQ H p with
  |true,some s=>some (⟨s,n,b⟩,[(100,p)],[])
  |_,_=>none
 |_,_=>none
def gS1(s:StmQ):StmQ:=Ad s 1 12
def gS2(s:StmQ):StmQ:=Ad (gS1 s) (-50) 400
def gS3(s:StmQ):StmQ:=BQ (gS2 s) 12
def gS4(s:StmQ):StmQ:=BQ (gS3 s) 9
def gS5(s:StmQ):StmQ:=BQ (gS4 s) 6
def gS6(s:StmQ):StmQ:=BQ (gS5 s) 300
def ZN(s:StmQ):Int:=Js s 1 12
def Ig(s:StmQ):Int:=MQ (ZN s+BA (gS4 s) 6)
def Lx(s:StmQ):Int:=Js (gS1 s) (-50) 400
def Ge(s:StmQ):Int:=BA (gS2 s) 12
def Ch(s:StmQ):Int:=BA (gS3 s) 9
def hTm(s:StmQ):Int:=BA (gS5 s) 300
structure MS where
 s:StmQ
 pl:Int
 tm:Int
 ms:List Mk
 t:List Int
 st:List Int
 z:List Int
 deriving Inhabited
def Ku(x:MS):Int:=Js x.s 1 30
def advA(a:MkIQ)(x:MS):MS:=⟨Ad (Ad x.s 1 30) (MQ (ZN a.s*Ku x)) (MQ (Ig a.s*Ku x)),MQ (x.pl+Ku x),MQ (x.tm+Js (Ad x.s 1 30) (MQ (ZN a.s*Ku x)) (MQ (Ig a.s*Ku x))),x.ms,x.t,x.st,x.z⟩
def advZ(a:MkIQ)(x:MS):MS:=bif a.b then bif BA x.s 5==0 then⟨BQ (BQ x.s 5) 400,x.pl,MQ (x.tm+BA (BQ x.s 5) 400),x.ms,x.t,x.st,x.z ++ [MQ ((x.ms.length:Int)-1)]⟩ else⟨BQ x.s 5,x.pl,x.tm,x.ms,x.t,x.st,x.z⟩ else x
def yAt(a:MkIQ)(x:MS):Int:=MQ (Lx a.s+MQ (Ge a.s*BA x.s 60))
def addM(a:MkIQ)(x:MS):MS:=⟨Ad (BQ x.s 60) (MQ (yAt a x-Ch a.s)) (MQ (yAt a x+Ch a.s)),x.pl,x.tm,x.ms ++ [⟨x.pl,BA x.s 60⟩],x.t ++ [x.tm],x.st ++ [Js (BQ x.s 60) (MQ (yAt a x-Ch a.s)) (MQ (yAt a x+Ch a.s))],x.z⟩
def goM(a:MkIQ)(x:MS):MS:=bif decide (0<x.ms.length) then advZ a (advA a x) else x
def stpC(a:MkIQ)(x:MS):MS:=addM a (goM a x)
def D6(a:MkIQ):Nat->MS->MS
 |0,x=>x
 |n+1,x=>D6 a n (stpC a x)
def mS0(a:MkIQ):MS:=⟨Ad (gS6 a.s) 1 a.m,0,hTm a.s,[],[],[],[]⟩
def mN(a:MkIQ):Nat:=(Js (gS6 a.s) 1 a.m).toNat
def mS(a:MkIQ):MS:=D6 a (mN a) (mS0 a)
structure NSt where
 s:StmQ
 ns:List Nt
 deriving Inhabited
def nS2(s:StmQ):StmQ:=BQ s 40
def nS3(s:StmQ):StmQ:=BQ (nS2 s) 40
def nS4(s:StmQ):StmQ:=BQ (nS3 s) 9
def nS5(s:StmQ):StmQ:=BQ (nS4 s) 9
def mkNt(a:MkIQ)(s:StmQ)(i:Nat):Nt:=⟨i,⟨OL 0 (MQ (gD (mS a).t i-BA s 40)),MQ (gD (mS a).t i+BA (nS2 s) 40)⟩,⟨MQ (gD (mS a).st i-BA (nS3 s) 9),MQ (gD (mS a).st i+BA (nS4 s) 9)⟩⟩
def addN(a:MkIQ)(b:Bool)(i:Nat)(x:NSt):NSt:=bif b then⟨nS5 x.s,x.ns ++ [mkNt a x.s i]⟩ else x
def stpN(a:MkIQ)(i:Nat)(x:NSt):NSt:=addN a (BA x.s 2==0) i ⟨BQ x.s 2,x.ns⟩
def mkN(a:MkIQ):Nat->Nat->NSt->NSt
 |0,_,x=>x
 |n+1,i,x=>mkN a n (i+1) (stpN a i x)
def Ua(a:MkIQ):NSt:=mkN a (mS a).ms.length 0 ⟨(mS a).s,[]⟩
def swN(l:List Nt)(i k:Nat):List Nt:=(l.set i (gD l k)).set k (gD l i)
def shK:Nat->NSt->NSt
 |0,x=>x
 |j+1,x=>shK j ⟨BQ x.s ((j:Int)+2),swN x.ns (j+1) (BA x.s ((j:Int)+2)).toNat⟩
def mE(a:MkIQ):NSt:=shK ((Ua a).ns.length-1) (Ua a)
def ZP(a:MkIQ):Cht:=⟨⟨ZN a.s,Ig a.s⟩,Lx a.s,Ge a.s,Ch a.s,(mS a).ms,(mE a).ns⟩
def jV(a:MkIQ):Tru:=⟨(mS a).t,(mS a).st,(mS a).z⟩
structure KS where
 k:Nat
 x:MS
 deriving Inhabited
structure KN where
 i:Nat
 x:NSt
 deriving Inhabited
def AJS(a:MkIQ):Prop:=StmBQ 0 a.s/\1<=a.m/\a.m<=14
def rowM(l:List Mk):AObj:=.row 2 l.length λi=>eMk (gD l i)
def rowN(l:List Nt):AObj:=.row 5 l.length λi=>eNt (gD l i)
def zCh:HCell:=.live (.box [.int 0,.int 0,.int 0,.int 0,.int 0,.d TE,.d TE])
def zTr:HCell:=.live (.box [.d TE,.d TE,.d TE])
def chC(a:MkIQ)(m n:AVal):HCell:=.live (.box [.int (ZN a.s),.int (Ig a.s),.int (Lx a.s),.int (Ge a.s),.int (Ch a.s),m,n])
def trC(t s z:AVal):HCell:=.live (.box [t,s,z])
def mdP:List (Nat×AVal):=[(0,.bptr 100 0),(6,.bptr 1000 0),(7,.bptr 1016 0),(8,.bptr 2160 0),(9,.bptr 4000 0)]
def mdSQ(b:Bool)(y:KS):List (Nat×AVal):=mdP ++ [(2,.bool b),(10,.int y.x.pl),(11,.int y.x.tm),(12,.int y.k)]
def inv6(a:MkIQ)(y:KS):Prop:=D6 a y.k y.x=mS a/\(y.k:Int)<=a.m/\StmBQ (7+7*(a.m-y.k)) y.x.s/\((y.x.ms.length:Int)+y.k<=a.m/\y.x.t.length=y.x.ms.length/\y.x.st.length=y.x.ms.length/\(y.x.z=[]∨y.x.z.length+1<=y.x.ms.length))
def mdO(y:KS):List (Nat×HCell):=[(301,.live (rowM y.x.ms)),(302,.live (CZQ y.x.t)),(303,.live (CZQ y.x.st))]
def ownM(y:KS):AVal:=.own 301 2 0 y.x.ms.length
def ownT(y:KS)(z:AVal):HCell:=trC (.own 302 1 0 y.x.t.length) (.own 303 1 0 y.x.st.length) z
def hpN(a:MkIQ)(y:KS):List (Nat×HCell):=[(100,AOL y.x.s),(1000,zCh),(1016,zTr),(2160,chC a (.d TE) (.d TE)),(4000,zTr)]
def hpO(a:MkIQ)(y:KS):List (Nat×HCell):=[(100,AOL y.x.s),(1000,zCh),(1016,zTr),(2160,chC a (ownM y) (.d TE)),(4000,ownT y (.d TE))] ++ mdO y
def hpP(a:MkIQ)(y:KS):List (Nat×HCell):=[(100,AOL y.x.s),(1000,zCh),(1016,zTr),(2160,chC a (ownM y) (.d TE)),(4000,ownT y (.own 304 1 0 y.x.z.length))] ++ mdO y ++ [(304,.live (CZQ y.x.z))]
def md6n(b:Bool)(a:MkIQ):Shape:={ α:=KS,dflt:=default,T:=λy=>⟨mdSQ b y,hpN a y⟩,inv:=λy=>inv6 a y/\1<=y.k/\y.x.ms=[]/\y.x.z=[],meas:=λy=>100,tag:=[0] }
def md6o(b:Bool)(a:MkIQ):Shape:={ α:=KS,dflt:=default,T:=λy=>⟨mdSQ b y,hpO a y⟩,inv:=λy=>inv6 a y/\1<=y.x.ms.length/\y.x.z=[],meas:=λy=>y.k+20,again:=[(301,18064),(302,18144),(303,18368)],tag:=[1] }
def md6p(b:Bool)(a:MkIQ):Shape:={ α:=KS,dflt:=default,T:=λy=>⟨mdSQ b y,hpP a y⟩,inv:=λy=>inv6 a y/\1<=y.x.ms.length/\1<=y.x.z.length,meas:=λy=>y.k,again:=[(301,18064),(302,18144),(303,18368)],tag:=[2] }
def DDQ(a:MkIQ)(y:KS):Prop:=D6 a (y.k-1) (addM a y.x)=mS a/\(1<=y.k/\(y.k:Int)<=a.m)/\StmBQ (11+7*(a.m-y.k)) y.x.s/\((y.x.ms.length:Int)+y.k<=a.m/\y.x.t.length=y.x.ms.length/\y.x.st.length=y.x.ms.length/\y.x.z.length<=y.x.ms.length)
def c15n(b:Bool)(a:MkIQ)(m:Nat):Shape:={ α:=KS,dflt:=default,T:=λy=>⟨mdSQ b y,hpN a y⟩,inv:=λy=>DDQ a y/\m=100/\y.x.ms=[]/\y.x.z=[],meas:=λ_=>0 }
def c15o(b:Bool)(a:MkIQ)(m:Nat):Shape:={ α:=KS,dflt:=default,T:=λy=>⟨mdSQ b y,hpO a y⟩,inv:=λy=>DDQ a y/\y.k+20<=m/\1<=y.x.ms.length/\y.x.z=[],meas:=λ_=>0 }
def c15p(b:Bool)(a:MkIQ)(m:Nat)(f:List (Nat×Nat)):Shape:={ α:=KS,dflt:=default,T:=λy=>⟨mdSQ b y,hpP a y⟩,inv:=λy=>DDQ a y/\y.k<=m/\1<=y.x.ms.length/\1<=y.x.z.length,meas:=λ_=>0,first:=f }
def c15(b:Bool)(a:MkIQ)(m:Nat):Nat->List Shape
 |0=>[c15n b a m]
 |1=>bif b then [c15o b a m,c15p b a m [(304,14112)]] else [c15o b a m]
 |_=>[c15p b a m [(304,14112)],c15p b a m []]
def mdHQ(a:MkIQ)(s:StmQ)(n:AVal):List (Nat×HCell):=[(100,AOL s),(1000,zCh),(1016,zTr),(2160,chC a (.d (eMks (mS a).ms)) n),(4000,trC (.d (FE (mS a).t)) (.d (FE (mS a).st)) (.d (FE (mS a).z)))]
def fin6(a:MkIQ):Prop:=inv6 a ⟨0,mS a⟩
def md18(a:MkIQ)(z:List Nat):Shape:={ α:=One,dflt:=default,T:=λ_=>⟨mdP,mdHQ a (mS a).s (.d TE)⟩,inv:=λ_=>fin6 a,meas:=λ_=>0,ffz:=z }
def DMJ(a:MkIQ)(y:KN):Prop:=fin6 a/\y.i<=(mS a).ms.length/\StmBQ (7+7*a.m+5*y.i) y.x.s/\mkN a ((mS a).ms.length-y.i) y.i y.x=Ua a/\y.x.ns.length<=y.i
def DTR(a:MkIQ):Shape:={ α:=KN,dflt:=default,T:=λy=>⟨mdP ++ [(16,.int y.i)],mdHQ a y.x.s (.d TE)⟩,inv:=λy=>DMJ a y/\y.x.ns=[],meas:=λy=>100-y.i,tag:=[0] }
def DWM(a:MkIQ):Shape:={ α:=KN,dflt:=default,T:=λy=>⟨mdP ++ [(16,.int y.i)],mdHQ a y.x.s (.own 305 5 0 y.x.ns.length) ++ [(305,.live (rowN y.x.ns))]⟩,inv:=λy=>DMJ a y/\1<=y.x.ns.length,meas:=λy=>100-y.i,tag:=[1] }
structure KNb where
 i:Nat
 x:NSt
 b:Bool
 deriving Inhabited
def DMO(a:MkIQ)(m:Nat)(y:KNb):Prop:=fin6 a/\(y.i<(mS a).ms.length/\100-y.i=m)/\StmBQ (8+7*a.m+5*y.i) y.x.s/\mkN a ((mS a).ms.length-(y.i+1)) (y.i+1) (addN a y.b y.i y.x)=Ua a/\y.x.ns.length<=y.i
def c22n(a:MkIQ)(m:Nat):Shape:={ α:=KNb,dflt:=default,T:=λy=>⟨mdP ++ [(16,.int y.i),(142,.bool y.b)],mdHQ a y.x.s (.d TE)⟩,inv:=λy=>DMO a m y/\y.x.ns=[],meas:=λ_=>0 }
def c22o(a:MkIQ)(m:Nat):Shape:={ α:=KNb,dflt:=default,T:=λy=>⟨mdP ++ [(16,.int y.i),(142,.bool y.b)],mdHQ a y.x.s (.own 305 5 0 y.x.ns.length) ++ [(305,.live (rowN y.x.ns))]⟩,inv:=λy=>DMO a m y/\1<=y.x.ns.length,meas:=λ_=>0 }
def DCX(a:MkIQ)(m:Nat)(y:KN):Prop:=fin6 a/\(y.i<(mS a).ms.length/\100-y.i=m)/\StmBQ (12+7*a.m+5*y.i) y.x.s/\mkN a ((mS a).ms.length-(y.i+1)) (y.i+1) y.x=Ua a/\y.x.ns.length<=y.i+1
def c20n(a:MkIQ)(m:Nat):Shape:={ α:=KN,dflt:=default,T:=λy=>⟨mdP ++ [(16,.int y.i)],mdHQ a y.x.s (.d TE)⟩,inv:=λy=>DCX a m y/\y.x.ns=[],meas:=λ_=>0 }
def c20o(a:MkIQ)(m:Nat)(f:List (Nat×Nat)):Shape:={ α:=KN,dflt:=default,T:=λy=>⟨mdP ++ [(16,.int y.i)],mdHQ a y.x.s (.own 305 5 0 y.x.ns.length) ++ [(305,.live (rowN y.x.ns))]⟩,inv:=λy=>DCX a m y/\1<=y.x.ns.length,meas:=λ_=>0,first:=f }
def DXN(a:MkIQ):Shape:={ α:=One,dflt:=default,T:=λ_=>⟨mdP,mdHQ a (Ua a).s (.d TE)⟩,inv:=λ_=>fin6 a/\(Ua a).ns=[],meas:=λ_=>0,tag:=[0] }
def DVZ(a:MkIQ):Shape:={ α:=One,dflt:=default,T:=λ_=>⟨mdP,mdHQ a (Ua a).s (.own 305 5 0 (Ua a).ns.length) ++ [(305,.live (rowN (Ua a).ns))]⟩,inv:=λ_=>fin6 a/\StmBQ (7+7*a.m+5*a.m) (Ua a).s/\(1<=(Ua a).ns.length/\((Ua a).ns.length:Int)<=a.m),meas:=λ_=>0,tag:=[1] }
def DXS(a:MkIQ)(y:KN):Prop:=fin6 a/\y.i<y.x.ns.length/\StmBQ (7+7*a.m+5*a.m+a.m-y.i) y.x.s/\shK y.i y.x=mE a/\(y.x.ns.length:Int)<=a.m
def DXG(a:MkIQ):Shape:={ α:=One,dflt:=default,T:=λ_=>⟨mdP ++ [(17,.int (-1))],mdHQ a (mE a).s (.d TE)⟩,inv:=λy=>(mE a).ns=[],meas:=λy=>100 }
def DWN(a:MkIQ):Shape:={ α:=KN,dflt:=default,T:=λy=>⟨mdP ++ [(17,.int y.i)],mdHQ a y.x.s (.own 305 5 0 y.x.ns.length) ++ [(305,.live (rowN y.x.ns))]⟩,inv:=λy=>DXS a y,meas:=λy=>y.i }
def hdP(b:Bool)(a:MkIQ):List (Nat×AVal):=[(0,.bptr 100 0),(1,.int a.m),(2,.bool b),(6,.bptr 1000 0),(7,.bptr 1016 0),(8,.bptr 2160 0)]
def ch2(b:Bool)(a:MkIQ):Shape:={ α:=One,dflt:=default,T:=λ_=>⟨hdP b a,[(100,AOL (gS4 a.s)),(1000,zCh),(1016,zTr),(2160,.live (.box [.int (ZN a.s),.int 0,.int (Lx a.s),.int (Ge a.s),.int (Ch a.s),.d TE,.d TE]))]⟩,inv:=λ_=>StmBQ 4 (gS4 a.s),meas:=λ_=>0 }
def ch3(b:Bool)(a:MkIQ):Shape:={ α:=One,dflt:=default,T:=λ_=>⟨hdP b a,[(100,AOL (gS5 a.s)),(1000,zCh),(1016,zTr),(2160,chC a (.d TE) (.d TE))]⟩,inv:=λ_=>StmBQ 5 (gS5 a.s),meas:=λ_=>0 }
def ch5(b:Bool)(a:MkIQ):Shape:={ α:=One,dflt:=default,T:=λ_=>⟨hdP b a ++ [(9,.bptr 4000 0),(10,.int 0),(11,.int (hTm a.s))],[(100,AOL (gS6 a.s)),(1000,zCh),(1016,zTr),(2160,chC a (.d TE) (.d TE)),(4000,zTr)]⟩,inv:=λ_=>StmBQ 6 (gS6 a.s),meas:=λ_=>0 }
def DOE(a:MkIQ)(y:KS):Prop:=D6 a (y.k-1) (addM a (advZ a y.x))=mS a/\(1<=y.k/\(y.k:Int)<=a.m)/\StmBQ (9+7*(a.m-y.k)) y.x.s/\((y.x.ms.length:Int)+y.k<=a.m/\y.x.t.length=y.x.ms.length/\y.x.st.length=y.x.ms.length/\y.x.z.length+1<=y.x.ms.length)
def c12o(b:Bool)(a:MkIQ)(m:Nat):Shape:={ α:=KS,dflt:=default,T:=λy=>⟨mdSQ b y,hpO a y⟩,inv:=λy=>DOE a y/\y.k+20<=m/\1<=y.x.ms.length/\y.x.z=[],meas:=λ_=>0 }
def c12p(b:Bool)(a:MkIQ)(m:Nat):Shape:={ α:=KS,dflt:=default,T:=λy=>⟨mdSQ b y,hpP a y⟩,inv:=λy=>DOE a y/\y.k<=m/\1<=y.x.ms.length/\1<=y.x.z.length,meas:=λ_=>0 }
def G5(b:Bool):Ctr:={ α:=MkIQ,xs:=λa=>[.bptr 100 0,.int a.m,.bool b],L:=λa=>[(100,CON a.s)],val:=λa=>.tup [.d (eCht (ZP a)),.d (eTru (jV a))],keep:=λa=>[(100,AOL (mE a).s)],pre:=λa=>[AJS a/\a.b=b] }
def COH(b:Bool)(a:MkIQ):Ann:={ ann 217 [(BNF,C_NextQ.spec BYS),(BEO,C_WithinQ.spec BVO)] with E:=[100],md:=λid=>if id=12 then some (λk=>if k=2∨k=3∨k=4 then (bif b then 8 else 9) else 0) else none,mt:=λid=>id==13||id==17||id==22,loops:=λid=>if id=6 then (bif b then some [md6n b a,md6o b a,md6p b a] else some [md6n b a,md6o b a]) else if id=19 then some [DTR a,DWM a] else none,inner:=λgs id=>if id=24 then (if gs.getD 0 0=0 then some [DXG a] else some [DWN a]) else none,cut:=λid=>if id=2 then some [ch2 b a] else if id=3 then some [ch3 b a] else if id=5 then some [ch5 b a] else if id=18 then (bif b then some [md18 a [301,302,303],md18 a [301,302,303,304]] else some [md18 a [301,302,303]]) else if id=23 then some [DXN a,DVZ a] else none,cutIn:=λgs id=>if id=15 then some (c15 b a (gs.getD 0 0) (gs.getD 1 0)) else if id=12 then (if gs.getD 1 0=1 then some [c12o b a (gs.getD 0 0)] else some [c12p b a (gs.getD 0 0)]) else if id=22 then (if gs.getD 1 0=0 then some [c22n a (gs.getD 0 0)] else some [c22o a (gs.getD 0 0)]) else if id=20 then (if gs.getD 1 0=0 then some [c20n a (gs.getD 0 0),c20o a (gs.getD 0 0) [(305,23640)]] else some [c20o a (gs.getD 0 0) [(305,23640)],c20o a (gs.getD 0 0) []]) else none }
end Go.Bal

namespace Go.Bal
open Go Go.Sym Go.Proofs
theorem DAN(s:StmQ):StmQ.mk s.bs s.used s.mix=s:=rfl
theorem SA{K:Int}{s:StmQ}(h:StmBQ K s)(hK:K<=1000000000000000)(lo hi:Int):StmBQ (K+1) (Ad s lo hi):=h.next hK _
theorem BZP{a:MkIQ}(h:AJS a):StmBQ 1 (gS1 a.s)/\StmBQ 2 (gS2 a.s)/\StmBQ 3 (gS3 a.s)/\StmBQ 4 (gS4 a.s)/\StmBQ 5 (gS5 a.s)/\StmBQ 6 (gS6 a.s):=by
 have b1:StmBQ 1 (gS1 a.s):=(SA h.1 (by omega) 1 12).mono (by omega)
 have b2:StmBQ 2 (gS2 a.s):=(SA b1 (by omega) (-50) 400).mono (by omega)
 have b3:StmBQ 3 (gS3 a.s):=(b2.next (by omega) 12).mono (by omega)
 have b4:StmBQ 4 (gS4 a.s):=(b3.next (by omega) 9).mono (by omega)
 have b5:StmBQ 5 (gS5 a.s):=(b4.next (by omega) 6).mono (by omega)
 exact⟨b1,b2,b3,b4,b5,(b5.next (by omega) 300).mono (by omega)⟩
theorem DAO{a:MkIQ}(h:AJS a):(mN a:Int)=Js (gS6 a.s) 1 a.m/\1<=mN a/\(mN a:Int)<=a.m:=by
 obtain⟨_,_,_,_,_,b6⟩:=BZP h
 obtain⟨_,m1,m2⟩:=h
 have:=yE b6 (by omega) (lo:=1) (hi:=a.m) (by omega) m1 (by omega)
 unfold mN;omega
theorem go_0{a:MkIQ}{x:MS}(h:x.ms=[]):goM a x=x:=by unfold goM;rw[h];rfl
theorem go_1{a:MkIQ}{x:MS}(h:0<x.ms.length):goM a x=advZ a (advA a x):=by unfold goM;rw[decide_eq_true h];rfl
theorem CIL{a:MkIQ}{k:Nat}{x:MS}(h:0<k):D6 a k x=D6 a (k-1) (addM a (goM a x)):=by
 obtain⟨n,rfl⟩:∃n,k=n+1:=⟨k-1,by omega⟩
 rfl
theorem n_lt{i n k:Nat}(h:(bif decide ((i:Int)<n) then decide ((k:Int)<20) else false)=true):i<n:=by
 cases hd:decide ((i:Int)<n) with
 |false=>rw[hd] at h;cases h
 |true=>have:=of_decide_eq_true hd;omega
theorem n_ge{i n k:Nat}(hk:k<20)(h:(bif decide ((i:Int)<n) then decide ((k:Int)<20) else false)=false):¬ i<n:=by
 intro hi
 rw[decide_eq_true (show (i:Int)<n by omega),decide_eq_true (show (k:Int)<20 by omega)] at h;cases h
theorem DNZ{a:MkIQ}{i:Nat}{x:NSt}(h:i<(mS a).ms.length):mkN a ((mS a).ms.length-i) i x=mkN a ((mS a).ms.length-(i+1)) (i+1) (addN a (BA x.s 2==0) i ⟨BQ x.s 2,x.ns⟩):=by
 obtain⟨n,hn⟩:∃n,(mS a).ms.length-i=n+1:=⟨(mS a).ms.length-i-1,by omega⟩
 rw[hn,show (mS a).ms.length-(i+1)=n by omega];rfl
theorem sS(l:List Nt)(i k:Nat):(swN l i k).length=l.length:=by simp[swN]
theorem CQT{l:List Nt}{j i:Nat}{x:Nt}(hj:j<l.length):gD (l.set j x) i=bif decide (i=j) then x else gD l i:=by
 unfold gD
 rw[List.getD_eq_getElem?_getD,List.getD_eq_getElem?_getD,List.getElem?_set]
 by_cases h:i=j
 ·subst h;simp[hj]
 ·simp[h,Ne.symm h]
theorem CUM{l:List Nt}{i k:Nat}(hi:i<l.length)(hk:k<l.length){t:Nat}:gD (swN l i k) t=bif decide (t=k) then gD l i else bif decide (t=i) then gD l k else gD l t:=by
 unfold swN
 rw[CQT (by simpa using hk),CQT hi]
end Go.Bal

namespace Go.Bal
open Go Go.Sym Go.Proofs
def iB(c:Cht)(g:Nat):Int:=(gD c.ms (g+1)).pl-(gD c.ms g).pl
def gapP(c:Cht)(sp:Nat->Bool)(g:Nat):Span:=⟨c.p.lo*iB c g,bif sp g then 200000000 else c.p.hi*iB c g⟩
theorem ChOk.far{c:Cht}(h:ChOk c){g:Nat}(hg:g+1<c.ms.length):1<=iB c g/\iB c g<=10000:=by
 have h1:=h.up g hg
 have h2:=h.mks g (by omega)
 have h3:=h.mks (g+1) hg
 unfold iB;omega
theorem ChOk.gap{c:Cht}(h:ChOk c)(sp:Nat->Bool){g:Nat}(hg:g+1<c.ms.length):(1<=c.p.lo*iB c g/\c.p.lo*iB c g<=6000000)/\(c.p.lo*iB c g<=c.p.hi*iB c g/\c.p.hi*iB c g<=6000000)/\(gapP c sp g).lo<=(gapP c sp g).hi:=by
 obtain⟨f1,f2⟩:=h.far hg
 obtain⟨p1,p2,p3⟩:=h.p
 have a1:=BLO (a:=c.p.lo) (b:=iB c g) (A:=600) (B:=10000) (by omega) (by omega) (by omega) f2
 have a2:=BLO (a:=c.p.hi) (b:=iB c g) (A:=600) (B:=10000) (by omega) (by omega) (by omega) f2
 have a3:c.p.lo*iB c g<=c.p.hi*iB c g:=Int.mul_le_mul_of_nonneg_right p2 (by omega)
 have a4:1*1<=c.p.lo*iB c g:=Int.mul_le_mul p1 f1 (by omega) (by omega)
 refine⟨by omega,by omega,?_⟩
 show c.p.lo*iB c g<=bif sp g then 200000000 else c.p.hi*iB c g
 cases sp g
 ·exact a3
 ·show _<=(200000000:Int);omega
theorem ANM{w:Dk}(h:ChOk w.c){g:Nat}(hg:g+1<w.c.ms.length):Oh w g=gapP w.c w.sp g:=by
 obtain⟨f1,f2⟩:=h.far hg
 obtain⟨a1,a2,_⟩:=h.gap w.sp hg
 have e:farM w.c g=iB w.c g:=by unfold farM MQ;unfold iB at *;exact JC (by omega) (by omega)
 unfold Oh gapP
 rw[e]
 unfold MQ
 rw[JC (by omega) (by omega),JC (by omega) (by omega)]
theorem BZA{w:Dk}(h:ChOk w.c):gpOk (Oh w) (w.c.ms.length-1):=λg hg=>by
 obtain⟨a1,a2,a3⟩:=h.gap w.sp (g:=g) (by omega)
 rw[ANM h (by omega)]
 refine⟨⟨by show 0<=w.c.p.lo*iB w.c g;omega,by show w.c.p.lo*iB w.c g<=_;omega⟩,by have:(gapP w.c w.sp g).lo=w.c.p.lo*iB w.c g:=rfl;omega,?_⟩
 show (bif w.sp g then 200000000 else w.c.p.hi*iB w.c g)<=_
 cases w.sp g
 ·show w.c.p.hi*iB w.c g<=_;omega
 ·show (200000000:Int)<=_;omega
theorem CCI{w:Dk}(h:ChOk w.c):∀g,g<w.c.ms.length-1->(Oh w g).lo<=(Oh w g).hi:=λg hg=>by
 rw[ANM h (by omega)];exact (h.gap w.sp (by omega)).2.2
theorem CAL{c:Cht}(h:ChOk c)(j:Int):Yd 100000000 (notM c j)/\(notM c j).lo<=(notM c j).hi:=by
 unfold notM
 cases hj:hasN c.ns j with
 |false=>show Yd 100000000 farS/\farS.lo<=farS.hi;exact⟨⟨by decide,by decide⟩,by decide⟩
 |true=>
  obtain⟨hm,_⟩:=BBE hj
  have:=(h.nt _ hm).t
  refine⟨?_,this.2.1⟩
  show Yd _ (ntOf c.ns j).t
  unfold Yd;omega
theorem CCU{c:Cht}{i:Nat}(hi:i<c.ms.length):gD (notL c) i=notM c i:=OW _ _ _ hi
theorem Tr.ext2{l l' s s':Nat->Span}{n:Nat}{t:Nat->Int}(h:Tr l s n t)(h1:∀i,i<=n->l i=l' i)(h2:∀g,g<n->s g=s' g):Tr l' s' n t:=⟨λi hi=>by rw[<-h1 i hi];exact h.at_ i hi,λg hg=>by rw[<-h2 g hg];exact h.gap g hg⟩
def TrC(c:Cht)(sp:Nat->Bool)(t:Nat->Int):Prop:=Tr (λi=>notM c i) (gapP c sp) (c.ms.length-1) t
theorem BPV{w:Dk}(h:ChOk w.c){t:Nat->Int}:Tr (gD (notL w.c)) (Oh w) (w.c.ms.length-1) t↔TrC w.c w.sp t:=by
 have:=h.m
 exact⟨λq=>q.ext2 (λi hi=>CCU (by omega)) (λg hg=>ANM h (by omega)),λq=>q.ext2 (λi hi=>(CCU (by omega)).symm) (λg hg=>(ANM h (by omega)).symm)⟩
theorem CRE{c:Cht}(h:ChOk c):∀i,i<(notL c).length->Yd 1000000000 (gD (notL c) i):=λi hi=>by
 rw[Ae] at hi
 rw[CCU hi]
 have:=(CAL h i).1
 unfold Yd at *;omega
theorem CDW{w:Dk}(h:ChOk w.c):(VH w).2=true↔AEQ w.c=true/\∃t,TrC w.c w.sp t:=by
 have hm:=h.m
 have hk:=CUQ (w:=w) (l:=notL w.c) (by rw[Ae];omega) (by rw[Ae];omega) (CRE h) (by rw[Ae];exact BZA h) (by rw[Ae];exact CCI h)
 rw[Ae] at hk
 unfold VH
 cases hs:AEQ w.c with
 |false=>exact⟨λh=>(by cases h),λh=>(by cases h.1)⟩
 |true=>
  show (dF w (notL w.c)).all qF=true↔_
  rw[hk]
  exact⟨λ⟨t,ht⟩=>⟨rfl,t,(BPV h).1 ht⟩,λ⟨_,t,ht⟩=>⟨t,(BPV h).2 ht⟩⟩
theorem DBB{w:Dk}(h:ChOk w.c)(hk:(VH w).2=true){i:Nat}(hi:i<w.c.ms.length){x:Int}:(gD (VH w).1 i).has x↔∃t,TrC w.c w.sp t/\t i=x:=by
 have hm:=h.m
 obtain⟨hs,t,ht⟩:=(CDW h).1 hk
 have e:(VH w).1=dF w (notL w.c):=by unfold VH;rw[hs];rfl
 have b1:=BZA h
 have b2:=CCI h
 rw[e,CAJ (by rw[Ae];omega) (by rw[Ae];omega) (CRE h) (by rw[Ae];exact b1) (by rw[Ae];exact hi),Ae]
 rw[CNX b2 ((CGF b2).2 ⟨t,(BPV h).2 ht⟩) (by omega)]
 exact⟨λ⟨t,a,b⟩=>⟨t,(BPV h).1 a,b⟩,λ⟨t,a,b⟩=>⟨t,(BPV h).2 a,b⟩⟩
theorem CXQ{w:Dk}(hk:(VH w).2=true){i:Nat}(hi:i<w.c.ms.length):(gD (VH w).1 i).lo<=(gD (VH w).1 i).hi:=by
 unfold VH at hk ⊢
 cases hs:AEQ w.c with
 |false=>rw[hs] at hk;cases hk
 |true=>
  rw[hs] at hk
  have hk:(dF w (notL w.c)).all qF=true:=hk
  exact BZQ.1 hk i (by rw[CHW,Ae];exact hi)
end Go.Bal

namespace Go.Bal
open Go Go.Sym Go.Proofs
theorem kK(l:List Span)(k a b:Int):(parL l k a b).length=l.length:=rng_length _ _
theorem DRY{l:List Span}{g:Nat}{a b:Int}{i:Nat}(hi:i<l.length)(hg:g+1<l.length):gD (parL l ((g:Int)+1) a b) i=⟨bif decide (i=g+1) then OL (gD l i).lo b else (gD l i).lo,bif decide (i=g) then Ie (gD l i).hi a else (gD l i).hi⟩:=by
 unfold parL
 rw[OW _ _ _ hi]
 unfold parM
 have e1:((g:Int)+1).toNat=g+1:=by omega
 have e2:((g:Int)+1-1).toNat=g:=by omega
 rw[e1,e2,decide_eq_true (show (g:Int)+1<l.length by omega),decide_eq_true (show (g:Int)+1>0 by omega),Bool.and_true,Bool.true_and]
theorem BWS{a:CZ}(h:ChOk a.c)(hr:Ac a=0){i:Nat}(hi:i<a.c.ms.length){x:Int}:(gD (eA a) i).has x↔∃t,TrC a.c (Fh a).sp t/\t i=x:=
 DBB (w:=Fh a) h (BBT hr).2.2 hi
theorem DVR{a:CZ}(hr:Ac a=0){i:Nat}(hi:i<a.c.ms.length):(gD (eA a) i).lo<=(gD (eA a) i).hi:=CXQ (w:=Fh a) (BBT hr).2.2 hi
theorem TrC.note{c:Cht}{sp:Nat->Bool}{t:Nat->Int}(h:TrC c sp t){i:Nat}(hi:i<c.ms.length):(notM c i).has (t i):=h.at_ i (by omega)
theorem DUN{a:CZ}(h:ChOk a.c)(hr:Ac a=0){i:Nat}(hi:i<a.c.ms.length):Yd 100000000 (gD (eA a) i):=by
 have hle:=DVR hr hi
 obtain⟨t1,a1,b1⟩:=(BWS h hr hi).1 ⟨Int.le_refl _,hle⟩
 obtain⟨t2,a2,b2⟩:=(BWS h hr hi).1 ⟨hle,Int.le_refl _⟩
 have c1:=a1.note hi
 have c2:=a2.note hi
 have d:=(CAL h i).1
 rw[b1] at c1;rw[b2] at c2
 unfold Span.has Yd at *;omega
theorem COT{a:CZ}(h:ChOk a.c)(hr:Ac a=0){g:Nat}(hg:g+1<a.c.ms.length){t:Int}(ht:-100000000<=t/\t<=100000000):ADP a t g=true↔∃u,TrC a.c (Fh a).sp u/\u g<=t-1/\t+1<=u (g+1):=by
 have hl:=COV hr
 have hm:=h.m
 have w1:MQ (t-1)=t-1:=JC (by omega) (by omega)
 have w2:MQ (t+1)=t+1:=JC (by omega) (by omega)
 have b1:gpOk (Oh (Fh a)) (a.c.ms.length-1):=BZA (w:=Fh a) h
 have b2:∀g,g<a.c.ms.length-1->(Oh (Fh a) g).lo<=(Oh (Fh a) g).hi:=CCI (w:=Fh a) h
 have pa:=λi (hi:i<a.c.ms.length)=>DRY (l:=eA a) (g:=g) (a:=t-1) (b:=t+1) (i:=i) (by omega) (by omega)
 unfold ADP
 rw[w1,w2,CUQ (by rw[kK];omega) (by rw[kK];omega) (λi hi=>?_) (by rw[kK,hl];exact b1) (by rw[kK,hl];exact b2),kK,hl]
 ·constructor
  ·rintro⟨u,hu⟩
   have hin:∀i,i<a.c.ms.length->(gD (eA a) i).has (u i):=λi hi=>by
    have:=hu.at_ i (by omega)
    rw[pa i hi] at this
    obtain⟨q1,q2⟩:=this
    have m1:=BNM (gD (eA a) i).lo (t+1)
    have m2:=CCF (gD (eA a) i).hi (t-1)
    refine⟨Int.le_trans ?_ q1,Int.le_trans q2 ?_⟩
    ·show _<=bif decide (i=g+1) then OL (gD (eA a) i).lo (t+1) else (gD (eA a) i).lo
     cases decide (i=g+1)
     ·exact Int.le_refl _
     ·exact m1.1
    ·show (bif decide (i=g) then Ie (gD (eA a) i).hi (t-1) else (gD (eA a) i).hi)<=_
     cases decide (i=g)
     ·exact Int.le_refl _
     ·exact m2.1
   refine⟨u,⟨λi hi=>?_,λk hk=>?_⟩,?_,?_⟩
   ·obtain⟨v,v1,v2⟩:=(BWS h hr (by omega)).1 (hin i (by omega))
    have:=v1.note (i:=i) (by omega)
    rw[v2] at this;exact this
   ·have:=hu.gap k hk
    rw[ANM (w:=Fh a) h (by show k+1<a.c.ms.length;omega)] at this;exact this
   ·have:=(hu.at_ g (by omega)).2
    rw[pa g (by omega)] at this
    have this:u g<=bif decide (g=g) then Ie (gD (eA a) g).hi (t-1) else (gD (eA a) g).hi:=this
    rw[decide_eq_true rfl] at this
    have m2:=CCF (gD (eA a) g).hi (t-1)
    exact Int.le_trans this m2.2
   ·have:=(hu.at_ (g+1) (by omega)).1
    rw[pa (g+1) hg] at this
    have this:(bif decide (g+1=g+1) then OL (gD (eA a) (g+1)).lo (t+1) else (gD (eA a) (g+1)).lo)<=u (g+1):=this
    rw[decide_eq_true rfl] at this
    have m2:=BNM (gD (eA a) (g+1)).lo (t+1)
    exact Int.le_trans m2.2 this
  ·rintro⟨u,hu,u1,u2⟩
   refine⟨u,λi hi=>?_,λk hk=>?_⟩
   ·have hin:=(BWS h hr (show i<a.c.ms.length by omega)).2 ⟨u,hu,rfl⟩
    rw[pa i (by omega)]
    refine⟨?_,?_⟩
    ·show (bif decide (i=g+1) then OL (gD (eA a) i).lo (t+1) else (gD (eA a) i).lo)<=u i
     by_cases e:i=g+1
     ·subst e;rw[decide_eq_true rfl];exact BNS.2 ⟨hin.1,u2⟩
     ·rw[decide_eq_false e];exact hin.1
    ·show u i<=bif decide (i=g) then Ie (gD (eA a) i).hi (t-1) else (gD (eA a) i).hi
     by_cases e:i=g
     ·subst e;rw[decide_eq_true rfl];exact CBQ.2 ⟨hin.2,u1⟩
     ·rw[decide_eq_false e];exact hin.2
   ·have:=hu.gap k hk
    rw[ANM (w:=Fh a) h (by show k+1<a.c.ms.length;omega)];exact this
 ·rw[kK,hl] at hi
  have hb:=DUN h hr hi
  rw[pa i hi]
  refine⟨?_,?_⟩
  ·show _<=(bif decide (i=g+1) then OL (gD (eA a) i).lo (t+1) else (gD (eA a) i).lo)/\(bif decide (i=g+1) then OL (gD (eA a) i).lo (t+1) else (gD (eA a) i).lo)<=_
   unfold Yd OL at *
   cases decide (i=g+1)
   ·simp only[cond_false];omega
   ·simp only[cond_true];split<;>omega
  ·show _<=(bif decide (i=g) then Ie (gD (eA a) i).hi (t-1) else (gD (eA a) i).hi)/\(bif decide (i=g) then Ie (gD (eA a) i).hi (t-1) else (gD (eA a) i).hi)<=_
   unfold Yd Ie at *
   cases decide (i=g)
   ·simp only[cond_false];omega
   ·simp only[cond_true];split<;>omega
end Go.Bal
