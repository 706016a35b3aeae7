/- Package chart: Late, Proves. -/
import Derived.Test.YtdbjalgfomknhaaGreatChK
set_option linter.unusedVariables false
set_option linter.unusedSimpArgs false
namespace Go.Bal
open Go Go.Sym Go.Proofs
structure Prv where
 c:Cht
 m:Int
 l:List Pr
def dPrv:List AVal->Heap->Option (Prv×List (Nat×Nat)×List Nat)
 |[x,.d m,y],H=>match tN x H,dRow y H with
  |some (c,f),some (n,g,e)=>some (⟨c,KN m,NK n λi=>dPr (g i)⟩,[],f ++ e)
  |_,_=>none
 |_,_=>none
def xPrv(x:Prv):List AVal:=[.d (Nj x.c),.int x.m,.d (aZ x.l)]
def Qt(x:Prv)(k:Nat):Int:=(nA x.c (gD x.l k)).mi
def pvB(x:Prv)(k:Nat):Int:=(nB x.c (gD x.l k)).mi
def mtF(x:Prv):Nat->Nat->Bool
 |0,_=>false
 |k+1,i=>mtF x k i||(decide (Qt x k<=i)&&decide ((i:Int)<pvB x k))
def hitJ(f:Nat->Bool)(a:Nat):Nat->Bool
 |0=>false
 |j+1=>hitJ f a j||f (a+j)
def pvK(x:Prv):Nat->Bool
 |0=>true
 |k+1=>pvK x k&&Eg x.c (gD x.l k)&&!hitJ (mtF x k) (Qt x k).toNat (pvB x k-Qt x k).toNat
def Ub(x:Prv):Bool×Int:=bif decide ((x.l.length:Int)>40) then (false,3) else bif !(x.l.all λp=>Ca x.c p) then (false,2) else (pvK x x.l.length&&decide ((x.l.length:Int)>=x.m),0)
def Jb(x:Prv):Bool×Int:=bif AP x.c==0 then Ub x else (false,AP x.c)
def C_prov:Ctr:={ α:=Prv,xs:=xPrv,val:=λx=>.tup [.bool (Jb x).1,.int (Jb x).2],keep:=λ_=>[],pre:=λx=>[x.c.ms.length<4611686018427387904/\x.c.ns.length<4611686018427387904/\x.l.length<4611686018427387904] }
def pvS(x:Prv)(k:Nat):List (Nat×AVal):=[(1,.int x.m),(2,.d (aZ x.l)),(3,.bptr 201 0),(8,.bptr 203 0),(10,.rptr 205 1 0 0),(33,.d (aZ x.l)),(34,.int x.l.length),(35,.int k)]
def pvH(x:Prv)(f:Nat->Bool):List (Nat×HCell):=[(201,.live (xO x.c)),(203,.live (dkB (CM x.c) 204)),(204,.live (dkM (CM x.c))),(205,.live (.row 1 40 λi=>.v (.bool (f i))))]
def pv10(x:Prv):Shape:={ α:=Nat,dflt:=0,T:=λk=>⟨pvS x k,pvH x (mtF x k)⟩,inv:=λk=>k<=x.l.length/\pvK x k=true,meas:=λk=>x.l.length-k,first:=[(201,1000),(203,2016),(204,2017),(205,9000)] }
def mtG(x:Prv)(k j:Nat):Nat->Bool:=λi=>mtF x k i||(decide (Qt x k<=i)&&decide ((i:Int)<Qt x k+j))
def pv15(x:Prv)(m:Nat):Shape:={ α:=IJ,dflt:=default,T:=λs=>⟨[(12,.bptr 206 0),(13,.int (Qt x s.i+s.j))] ++ pvS x s.i,pvH x (mtG x s.i s.j) ++ [(206,.live (.box [.int (gD x.l s.i).a,.int (gD x.l s.i).b]))]⟩,inv:=λs=>(s.i<x.l.length/\x.l.length-s.i=m)/\(pvK x s.i=true/\Eg x.c (gD x.l s.i)=true)/\(Qt x s.i+s.j<=pvB x s.i/\hitJ (mtF x s.i) (Qt x s.i).toNat s.j=false),meas:=λs=>50-s.j,first:=[(206,12032)] }
def BYG(x:Prv):Ann:={ ann 71 [(Iz,C_open.spec iT),(n_eP,C4Pp.spec d4Pp),(BDF,C_late.spec dDkP)] with loops:=λid=>if id=10 then some [pv10 x] else none,inner:=λgs id=>if id=15 then some [pv15 x (gs.getD 0 0)] else none }
def CBL(x:Prv):Prop:=ES Try.prog (BYG x) Q3 (AJ Q3) (xPrv x) (AD []) (.tup [.bool (Ub x).1,.int (Ub x).2]) [] [] []
abbrev zL(x:Prv):Prop:=x.c.p.lo=x.c.p.lo
abbrev zH(x:Prv):Prop:=x.c.p.hi=x.c.p.hi
abbrev AJA(x:Prv):List Mk:=NK x.c.ms.length λ(i:Nat)=>gD x.c.ms i
abbrev AIS(x:Prv):Nat:=(AJA x).length
abbrev AZJ(x:Prv)(i:Nat):Mk:=gD (AJA x) i
abbrev AHY(x:Prv):List Nt:=NK x.c.ns.length λ(i:Nat)=>gD x.c.ns i
abbrev AKU(x:Prv):Nat:=(AHY x).length
abbrev AIJ(x:Prv)(i:Nat):Nt:=gD (AHY x) i
abbrev AZT(x:Prv)(i:Nat):Span:=(AIJ x i).t
abbrev BCI(x:Prv)(i:Nat):Span:=(AIJ x i).s
abbrev APR(x:Prv):Cht:=Cht.mk x.c.p x.c.base x.c.scale x.c.off (AJA x) (AHY x)
abbrev ACE(x:Prv):List Pr:=NK x.l.length λ(i:Nat)=>gD x.l i
abbrev AAE(x:Prv):Nat:=(ACE x).length
abbrev AMA(x:Prv)(i:Nat):Pr:=gD (ACE x) i
abbrev ATP(x:Prv):Dk:=CM (APR x)
abbrev eV(x:Prv):Cht:=(ATP x).c
abbrev AAU(x:Prv):Span:=(eV x).p
abbrev ADJ(x:Prv):Int:=(AAU x).lo
abbrev ARM(x:Prv):Prop:=ADJ x=ADJ x
abbrev ABI(x:Prv):Int:=(AAU x).hi
abbrev AQK(x:Prv):Prop:=ABI x=ABI x
abbrev A3(x:Prv):Int:=(eV x).base
abbrev ANM(x:Prv):Prop:=A3 x=A3 x
abbrev yC(x:Prv):Int:=(eV x).scale
abbrev APW(x:Prv):Prop:=yC x=yC x
abbrev yM(x:Prv):Int:=(eV x).off
abbrev AMR(x:Prv):Prop:=yM x=yM x
abbrev APY(x:Prv):List Mk:=(eV x).ms
abbrev nU(x:Prv):Nat:=(APY x).length
abbrev AAJ(x:Prv)(i:Nat):Mk:=gD (APY x) i
abbrev ACN(x:Prv):List Mk:=NK (nU x) λ(i:Nat)=>AAJ x i
abbrev ACP(x:Prv):Nat:=(ACN x).length
abbrev ATX(x:Prv)(i:Nat):Mk:=gD (ACN x) i
abbrev ANB(x:Prv)(i:Nat):Int:=(ATX x i).pl
abbrev AAV(x:Prv)(i:Nat):Int:=(AAJ x i).pl
abbrev ATQ(x:Prv)(i:Nat):Int:=(ATX x i).ht
abbrev ACH(x:Prv)(i:Nat):Int:=(AAJ x i).ht
abbrev zD(x:Prv):List Nt:=(eV x).ns
abbrev nE(x:Prv):Nat:=(zD x).length
abbrev xY(x:Prv)(i:Nat):Nt:=gD (zD x) i
abbrev nN(x:Prv):List Nt:=NK (nE x) λ(i:Nat)=>xY x i
abbrev yZ(x:Prv):Nat:=(nN x).length
abbrev ABT(x:Prv)(i:Nat):Nt:=gD (nN x) i
abbrev APS(x:Prv)(i:Nat):Int:=(ABT x i).mi
abbrev ACI(x:Prv)(i:Nat):Int:=(xY x i).mi
abbrev AOB(x:Prv)(i:Nat):Span:=(ABT x i).t
abbrev ALK(x:Prv)(i:Nat):Int:=(AOB x i).lo
abbrev AML(x:Prv)(i:Nat):Span:=(xY x i).t
abbrev ACW(x:Prv)(i:Nat):Int:=(AML x i).lo
abbrev ASA(x:Prv)(i:Nat):Int:=(AOB x i).hi
abbrev ADH(x:Prv)(i:Nat):Int:=(AML x i).hi
abbrev APV(x:Prv)(i:Nat):Span:=(ABT x i).s
abbrev ASB(x:Prv)(i:Nat):Int:=(APV x i).lo
abbrev ARJ(x:Prv)(i:Nat):Span:=(xY x i).s
abbrev ACF(x:Prv)(i:Nat):Int:=(ARJ x i).lo
abbrev AOX(x:Prv)(i:Nat):Int:=(APV x i).hi
abbrev ABF(x:Prv)(i:Nat):Int:=(ARJ x i).hi
abbrev Tu:Prop:=∀(i:Nat),i<40->false=false
abbrev ARK(x:Prv)(n:Int):Bool:=hasN (nN x) n
abbrev AAZ(x:Prv)(n:Int):Bool:=hasN (zD x) n
abbrev ABH(x:Prv)(n:Int):Int:=(ATP x).st n
abbrev ANY(x:Prv):Prop:=∀(n:Int),ABH x n=ABH x n
abbrev AAL(x:Prv)(n:Int):Nt:=ntOf (nN x) n
abbrev AUI(x:Prv)(n:Int):Int:=(AAL x n).mi
abbrev ACS(x:Prv)(n:Int):Nt:=ntOf (zD x) n
abbrev ACZ(x:Prv)(n:Int):Int:=(ACS x n).mi
abbrev AQZ(x:Prv)(n:Int):Span:=(AAL x n).t
abbrev AUQ(x:Prv)(n:Int):Int:=(AQZ x n).lo
abbrev AQO(x:Prv)(n:Int):Span:=(ACS x n).t
abbrev AAX(x:Prv)(n:Int):Int:=(AQO x n).lo
abbrev ATB(x:Prv)(n:Int):Int:=(AQZ x n).hi
abbrev ADB(x:Prv)(n:Int):Int:=(AQO x n).hi
abbrev ASZ(x:Prv)(n:Int):Span:=(AAL x n).s
abbrev ASI(x:Prv)(n:Int):Int:=(ASZ x n).lo
abbrev AOA(x:Prv)(n:Int):Span:=(ACS x n).s
abbrev AAT(x:Prv)(n:Int):Int:=(AOA x n).lo
abbrev AOZ(x:Prv)(n:Int):Int:=(ASZ x n).hi
abbrev Z4(x:Prv)(n:Int):Int:=(AOA x n).hi
abbrev Tm(x:Prv):Prop:=x.l.length=x.l.length
abbrev AOW(x:Prv)(i:Nat):Prop:=(gD x.l i).a=(gD x.l i).a
abbrev AOF(x:Prv)(i:Nat):Prop:=(gD x.l i).b=(gD x.l i).b
abbrev Ts(x:Prv):Prop:=∀(i:Nat),i<x.l.length->AOW x i/\AOF x i
abbrev zN:Prop:=0=0
abbrev zF(x:Prv):Prop:=(↑x.l.length:Int)=(↑x.l.length:Int)
abbrev yG(x:Prv):Prop:=x.c.ms.length=x.c.ms.length
abbrev xQ(x:Prv):Prop:=∀(i:Nat),i<x.c.ms.length->(gD x.c.ms i).pl=(gD x.c.ms i).pl/\(gD x.c.ms i).ht=(gD x.c.ms i).ht
abbrev yE(x:Prv):Prop:=x.c.ns.length=x.c.ns.length
abbrev xU(x:Prv):Prop:=∀(i:Nat),i<x.c.ns.length->(gD x.c.ns i).mi=(gD x.c.ns i).mi/\(gD x.c.ns i).t.lo=(gD x.c.ns i).t.lo/\(gD x.c.ns i).t.hi=(gD x.c.ns i).t.hi/\(gD x.c.ns i).s.lo=(gD
 x.c.ns i).s.lo/\(gD x.c.ns i).s.hi=(gD x.c.ns i).s.hi
abbrev Z5(i:Nat)(x:Prv):Prop:=i<(CM x.c).c.ms.length
abbrev nS(x:Prv)(i:Nat):Int:=(gD (CM x.c).c.ms i).pl
abbrev nD(x:Prv)(i:Nat):Int:=(gD (CM x.c).c.ms i).ht
abbrev ABK(i:Nat)(x:Prv):Prop:=i<(CM x.c).c.ns.length
abbrev nT(x:Prv)(i:Nat):Int:=(gD (CM x.c).c.ns i).mi
abbrev ANJ(x:Prv)(i:Nat):Span:=(gD (CM x.c).c.ns i).t
abbrev mW(x:Prv)(i:Nat):Int:=(ANJ x i).lo
abbrev nO(x:Prv)(i:Nat):Int:=(ANJ x i).hi
abbrev ATU(x:Prv)(i:Nat):Span:=(gD (CM x.c).c.ns i).s
abbrev mX(x:Prv)(i:Nat):Int:=(ATU x i).lo
abbrev nC(x:Prv)(i:Nat):Int:=(ATU x i).hi
abbrev yX:Prop:=40=40
abbrev D3(a:Nat)(x:Prv):Prop:=a<=x.l.length/\pvK x a=true
abbrev AFY(a:Nat)(x:Prv):Prop:=(↑a:Int)<(↑x.l.length:Int)
abbrev gE(x:Prv):Prop:=(CM x.c).c.p.lo=(CM x.c).c.p.lo
abbrev fM(x:Prv):Prop:=(CM x.c).c.p.hi=(CM x.c).c.p.hi
abbrev cP(x:Prv):Prop:=(CM x.c).c.base=(CM x.c).c.base
abbrev dY(x:Prv):Prop:=(CM x.c).c.scale=(CM x.c).c.scale
abbrev fW(x:Prv):Prop:=(CM x.c).c.off=(CM x.c).c.off
abbrev K5(x:Prv):List Mk:=NK (CM x.c).c.ms.length λ(i:Nat)=>gD (CM x.c).c.ms i
abbrev dC(x:Prv):Nat:=(K5 x).length
abbrev AFA(x:Prv)(i:Nat):Mk:=gD (K5 x) i
abbrev AHM(x:Prv)(i:Nat):Int:=(AFA x i).pl
abbrev AFH(x:Prv)(i:Nat):Int:=(AFA x i).ht
abbrev fU(x:Prv):List Nt:=NK (CM x.c).c.ns.length λ(i:Nat)=>gD (CM x.c).c.ns i
abbrev Yn(x:Prv):Nat:=(fU x).length
abbrev AFL(i:Nat)(x:Prv):Prop:=i<Yn x
abbrev I9(x:Prv)(i:Nat):Nt:=gD (fU x) i
abbrev sE(x:Prv)(i:Nat):Int:=(I9 x i).mi
abbrev AGP(x:Prv)(i:Nat):Span:=(I9 x i).t
abbrev AFX(x:Prv)(i:Nat):Int:=(AGP x i).lo
abbrev AFJ(x:Prv)(i:Nat):Int:=(AGP x i).hi
abbrev AGW(x:Prv)(i:Nat):Span:=(I9 x i).s
abbrev AEX(x:Prv)(i:Nat):Int:=(AGW x i).lo
abbrev AHB(x:Prv)(i:Nat):Int:=(AGW x i).hi
abbrev AEW(x:Prv)(n:Int):Bool:=hasN (fU x) n
abbrev fQ(x:Prv):Prop:=∀(n:Int),(CM x.c).st n=(CM x.c).st n
abbrev A7(x:Prv)(n:Int):Nt:=ntOf (fU x) n
abbrev AFE(x:Prv)(n:Int):Int:=(A7 x n).mi
abbrev AFZ(x:Prv)(n:Int):Span:=(A7 x n).t
abbrev AFC(x:Prv)(n:Int):Int:=(AFZ x n).lo
abbrev AHI(x:Prv)(n:Int):Int:=(AFZ x n).hi
abbrev AGX(x:Prv)(n:Int):Span:=(A7 x n).s
abbrev AEV(x:Prv)(n:Int):Int:=(AGX x n).lo
abbrev AEZ(x:Prv)(n:Int):Int:=(AGX x n).hi
abbrev AHK(x:Prv)(a:Nat):Prop:=0<=(gD x.l a).a
abbrev AGL(x:Prv):Prop:=(Ub x).snd=0
abbrev AHP(x:Prv):Prop:=(Ub x).fst=false/\AGL x
abbrev My(x:Prv)(a:IJ):Int:=Qt x a.i+(↑a.j:Int)
abbrev L5(x:Prv):Prop:=(CM x.c).c.ms.length=(CM x.c).c.ms.length
abbrev K9(x:Prv):Prop:=∀(i:Nat),Z5 i x->nS x i=nS x i/\nD x i=nD x i
abbrev D9(x:Prv):Prop:=(CM x.c).c.ns.length=(CM x.c).c.ns.length
abbrev L4(x:Prv):Prop:=∀(i:Nat),ABK i x->nT x i=nT x i/\mW x i=mW x i/\nO x i=nO x i/\mX x i=mX x i/\nC x i=nC
 x i
abbrev J1(x:Prv):Prop:=∀(n:Int),hasN (CM x.c).c.ns n=hasN (CM x.c).c.ns n
abbrev H8(x:Prv):Prop:=∀(n:Int),(ntOf (CM x.c).c.ns n).mi=(ntOf (CM x.c).c.ns n).mi/\(ntOf (CM x.c).c.ns n).t.lo=(ntOf (CM x.c).c.ns n).t.lo/\(ntOf (CM x.c).c.ns n).t.hi=(ntOf (CM
 x.c).c.ns n).t.hi/\(ntOf (CM x.c).c.ns n).s.lo=(ntOf (CM x.c).c.ns n).s.lo/\(ntOf (CM x.c).c.ns n).s.hi=(ntOf (CM x.c).c.ns n).s.hi
abbrev K6(x:Prv)(a:Nat):Nat:=x.l.length-a
abbrev H7(a:IJ)(x:Prv)(a1:Nat):Prop:=(a.i<x.l.length/\x.l.length-a.i=K6 x a1)/\(pvK x a.i=true/\Eg x.c (gD x.l a.i)=true)/\My x a<=pvB x a.i/\hitJ (mtF x a.i) (Qt
 x a.i).toNat a.j=false
abbrev D6(x:Prv)(a:IJ):Nat:=(My x a).toNat
abbrev AHE(x:Prv)(a:IJ):Prop:=(0<=My x a/\My x a<(↑40:Int))/\(D6 x a).succ.le 40
abbrev AFG(a:IJ):Nat:=50-a.j
theorem CJH(x:Prv):(CBL x)=((zL x/\zH x/\x.c.base=x.c.base/\x.c.scale=x.c.scale/\x.c.off=x.c.off/\AIS x=x.c.ms.length/\(∀(i:Nat),i<AIS x->(AZJ x i).pl=(gD
 x.c.ms i).pl/\(AZJ x i).ht=(gD x.c.ms i).ht)/\AKU x=x.c.ns.length/\(∀(i:Nat),i<AKU x->(AIJ x i).mi=(gD x.c.ns i).mi/\(AZT x i).lo=(gD x.c.ns i).t.lo/\(AZT x i).hi=(gD
 x.c.ns i).t.hi/\(BCI x i).lo=(gD x.c.ns i).s.lo/\(BCI x i).hi=(gD x.c.ns i).s.hi)/\(AIS x<4611686018427387904/\AKU x<4611686018427387904)/\AP (APR x)=0)/\bif decide
 ((↑x.l.length:Int)>40) then (Ub x).fst=false/\(Ub x).snd=3 else (AAE x=x.l.length/\(∀(i:Nat),i<AAE x->(AMA x i).a=(gD x.l i).a/\(AMA x i).b=(gD x.l i).b)/\ARM
 x/\AQK x/\ANM x/\APW x/\AMR x/\ACP x=nU x/\(∀(i:Nat),i<ACP x->ANB x i=AAV x i/\ATQ x i=ACH x i)/\yZ x=nE x/\(∀(i :
 Nat),i<yZ x->APS x i=ACI x i/\ALK x i=ACW x i/\ASA x i=ADH x i/\ASB x i=ACF x i/\AOX x i=ABF x i)/\Tu/\E6=E6/\(∀(n :
 Int),ARK x n=AAZ x n)/\ANY x/\(∀(n:Int),AUI x n=ACZ x n/\AUQ x n=AAX x n/\ATB x n=ADB x n/\ASI x n=AAT x n/\AOZ x n=Z4
 x n)/\ARM x/\AQK x/\ANM x/\APW x/\AMR x/\nU x=ACP x/\(∀(i:Nat),i<nU x->AAV x i=ANB x i/\ACH x i=ATQ x i)/\nE x =
 yZ x/\(∀(i:Nat),i<nE x->ACI x i=APS x i/\ACW x i=ALK x i/\ADH x i=ASA x i/\ACF x i=ASB x i/\ABF x i=AOX x i)/\Tu /\
 E6=E6/\(∀(n:Int),AAZ x n=ARK x n)/\ANY x/\(∀(n:Int),ACZ x n=AUI x n/\AAX x n=AUQ x n/\ADB x n=ATB x n/\AAT x n=ASI x n /\
 Z4 x n=AOZ x n)/\AAE x<4611686018427387904/\yZ x<1073741824)/\bif !(ACE x).all λ(x_1:Pr)=>Ca (Cht.mk (AAU x) (A3 x) (yC x) (yM x) (ACN
 x) (nN x)) x_1 then (Ub x).fst=false/\(Ub x).snd=2 else (Value.agg #[Value.bool false,Value.bool false,Value.bool false,Value.bool false,Value.bool false,Value.bool false,Value.bool false,
 Value.bool false,Value.bool false,Value.bool false,Value.bool false,Value.bool false,Value.bool false,Value.bool false,Value.bool false,Value.bool false,Value.bool false,Value.bool false,Value.bool false,
 Value.bool false,Value.bool false,Value.bool false,Value.bool false,Value.bool false,Value.bool false,Value.bool false,Value.bool false,Value.bool false,Value.bool false,Value.bool false,Value.bool false,
 Value.bool false,Value.bool false,Value.bool false,Value.bool false,Value.bool false,Value.bool false,Value.bool false,Value.bool false,Value.bool false]).cells.toList=(List.replicate 40 (Value.bool
 false).cells.toList).flatten/\(∃(a:Nat),(x.m=x.m/\Tm x/\Ts x/\zN/\Tm x/\Ts x/\zF x/\(↑a:Int)=0/\zL x/\zH x/\x.c.base=x.c.base/\x.c.scale =
 x.c.scale/\x.c.off=x.c.off/\yG x/\xQ x/\yE x/\xU x/\(CM x.c).c.p.lo=ADJ x/\(CM x.c).c.p.hi=ABI x/\(CM x.c).c.base=A3 x/\(CM x.c).c.scale=yC
 x/\(CM x.c).c.off=yM x/\(CM x.c).c.ms.length=nU x/\(∀(i:Nat),Z5 i x->nS x i=AAV x i/\nD x i=ACH x i)/\(CM x.c).c.ns.length=nE x/\(∀(i :
 Nat),ABK i x->nT x i=ACI x i/\mW x i=ACW x i/\nO x i=ADH x i/\mX x i=ACF x i/\nC x i=ABF x i)/\Tu/\E6=E6/\(∀(n:Int),
 hasN (CM x.c).c.ns n=AAZ x n)/\(∀(n:Int),(CM x.c).st n=ABH x n)/\(∀(n:Int),(ntOf (CM x.c).c.ns n).mi=ACZ x n/\(ntOf (CM x.c).c.ns n).t.lo=AAX x n/\(ntOf (CM x.c).c.ns
 n).t.hi=ADB x n/\(ntOf (CM x.c).c.ns n).s.lo=AAT x n/\(ntOf (CM x.c).c.ns n).s.hi=Z4 x n)/\yX/\∀(i:Nat),i<40->mtF x a i=false)/\D3 a x)/\∀(a:Nat),D3
 a x->bif decide (AFY a x) then (0<=(↑a:Int)/\AFY a x)/\(AOW x a/\AOF x a/\gE x/\fM x/\cP x/\dY x/\fW x/\dC x=(CM x.c).c.ms.length
 /\ (∀(i:Nat),i<dC x->AHM x i=nS x i/\AFH x i=nD x i)/\Yn x=(CM x.c).c.ns.length/\(∀(i:Nat),AFL i x->sE x i=nT x i/\AFX x i
 = mW x i/\AFJ x i=nO x i/\AEX x i=mX x i/\AHB x i=nC x i)/\Tu/\E6=E6/\(∀(n:Int),AEW x n=hasN (CM x.c).c.ns n)/\fQ x/\(∀(n
 : Int),AFE x n=(ntOf (CM x.c).c.ns n).mi/\AFC x n=(ntOf (CM x.c).c.ns n).t.lo/\AHI x n=(ntOf (CM x.c).c.ns n).t.hi/\AEV x n=(ntOf (CM x.c).c.ns n).s.lo/\AEZ x n =
 (ntOf (CM x.c).c.ns n).s.hi)/\gE x/\fM x/\cP x/\dY x/\fW x/\(CM x.c).c.ms.length=dC x/\(∀(i:Nat),Z5 i x->nS x i=AHM x i/\nD
 x i=AFH x i)/\(CM x.c).c.ns.length=Yn x/\(∀(i:Nat),ABK i x->nT x i=sE x i/\mW x i=AFX x i/\nO x i=AFJ x i/\mX x i=AEX
 x i/\nC x i=AHB x i)/\Tu/\E6=E6/\(∀(n:Int),hasN (CM x.c).c.ns n=AEW x n)/\fQ x/\(∀(n:Int),(ntOf (CM x.c).c.ns n).mi=AFE x n/\(ntOf (CM x.c).c.ns
 n).t.lo=AFC x n/\(ntOf (CM x.c).c.ns n).t.hi=AHI x n/\(ntOf (CM x.c).c.ns n).s.lo=AEV x n/\(ntOf (CM x.c).c.ns n).s.hi=AEZ x n)/\((AHK x a/\(gD x.l a).a <
 (↑(Yn x):Int))/\0<=(gD x.l a).b/\(gD x.l a).b<(↑(Yn x):Int))/\(dC x<=40/\Yn x<=20)/\∀(i:Nat),AFL i x->0<=sE x i/\sE x i<(↑(dC x) :
 Int))/\bif !Eg (Cht.mk (CM x.c).c.p (CM x.c).c.base (CM x.c).c.scale (CM x.c).c.off (K5 x) (fU x)) (gD x.l a) then AHP x else (AHK x a/\(gD x.l a).a<(↑x.c.ns.length:Int)) /\
 (∃(a_2:IJ),(My x a_2=(gD x.c.ns (gD x.l a).a.toNat).mi/\x.m=x.m/\Tm x/\Ts x/\zN/\Tm x/\Ts x/\zF x/\(↑a_2.i:Int)=(↑a:Int)/\zL x/\zH x /\
 x.c.base=x.c.base/\x.c.scale=x.c.scale/\x.c.off=x.c.off/\yG x/\xQ x/\yE x/\xU x/\gE x/\fM x/\cP x/\dY x/\fW x/\L5 x /\
 K9 x/\D9 x/\L4 x/\Tu/\E6=E6/\J1 x/\fQ x/\H8 x/\yX/\(∀(i:Nat),i<40->mtG x a_2.i a_2.j i=mtF x a i)/\(gD x.l a_2.i).a=(gD x.l a).a /\
 (gD x.l a_2.i).b=(gD x.l a).b)/\H7 a_2 x a)/\∀(a_2:IJ),H7 a_2 x a->(0<=(gD x.l a_2.i).b/\(gD x.l a_2.i).b<(↑x.c.ns.length:Int))/\bif decide (My x a_2<(gD x.c.ns (gD x.l
 a_2.i).b.toNat).mi) then AHE x a_2/\bif mtG x a_2.i a_2.j (D6 x a_2) then AHP x else AHE x a_2/\∃(a_4:IJ),(My x a_4=IntKind.i64.wrap (My x a_2+1)/\x.m=x.m /\
 Tm x/\Ts x/\zN/\Tm x/\Ts x/\zF x/\(↑a_4.i:Int)=(↑a_2.i:Int)/\zL x/\zH x/\x.c.base=x.c.base/\x.c.scale=x.c.scale/\x.c.off=x.c.off/\yG x
 /\ xQ x/\yE x/\xU x/\gE x/\fM x/\cP x/\dY x/\fW x/\L5 x/\K9 x/\D9 x/\L4 x/\Tu/\E6=E6/\J1 x /\
 fQ x/\H8 x/\yX/\(∀(i:Nat),i<40->mtG x a_4.i a_4.j i=bif decide (i=D6 x a_2) then true else mtG x a_2.i a_2.j i)/\(gD x.l a_4.i).a=(gD x.l a_2.i).a/\(gD x.l a_4.i).b=(gD
 x.l a_2.i).b)/\H7 a_4 x a/\AFG a_4<AFG a_2 else ∃(a_4:Nat),(x.m=x.m/\Tm x/\Ts x/\zN/\Tm x/\Ts x/\zF x/\(↑a_4:Int)=IntKind.i64.wrap
 ((↑a_2.i:Int)+1)/\zL x/\zH x/\x.c.base=x.c.base/\x.c.scale=x.c.scale/\x.c.off=x.c.off/\yG x/\xQ x/\yE x/\xU x/\gE x/\fM x/\cP x /\
 dY x/\fW x/\L5 x/\K9 x/\D9 x/\L4 x/\Tu/\E6=E6/\J1 x/\fQ x/\H8 x/\yX/\∀(i:Nat),i<40->mtF x a_4 i=mtG x a_2.i
 a_2.j i)/\D3 a_4 x/\K6 x a_4<K6 x a else (Ub x).fst=decide ((↑x.l.length:Int)>=x.m)/\AGL x):=by kernel_rfl
def BUU:Ann:=ann 71 [(Iz,C_openX.spec iT)]
def BSE(x:Prv):Prop:=ES Try.prog BUU Q3 (AJ Q3) (xPrv x) (AD []) (.tup [.bool false,.int (AP x.c)]) [] [] []
abbrev lZ:=Prv.c
attribute [go_sem] lZ
theorem CGU(x:Prv):(BSE x)=(Ic (Ki (lZ x) (λi=>AT i (lZ x) (AM (lZ x) i) (AN (lZ x) i) (AS (lZ x) i) (AC (lZ x) i) (AL (lZ x) i) (AR (lZ x) i) (AE (lZ x) i)) (fT (lZ x))) (Kl (lZ x)) Hy (Cm (lZ x) (Ao (lZ x))) (EZ (UP (GA (Prv.l x)) 40) Hy (Cm (lZ x) 3) VS)):=by kernel_rfl
theorem AWU{c:Cht}{p:Pr}(hn:c.ns.length<1073741824)(h:Ca c p=true):((0<=p.a/\p.a<c.ns.length)/\0<=p.b/\p.b<c.ns.length)/\(nA c p).mi<(nB c p).mi:=by
 unfold Ca at h
 cases hq:tW c.ns.length p with
 |false=>rw[hq] at h;cases h
 |true=>
  rw[hq] at h
  have h:(bif (!(p.a==p.b&&p.b==p.a)) then decide ((nA c p).mi<(nB c p).mi) else false)=true:=h
  unfold tW wr PN at hq
  rw[Ap (by omega) (by omega)] at hq
  simp only[Bool.and_eq_true,decide_eq_true_eq] at hq
  refine⟨⟨by omega,by omega⟩,?_⟩
  cases hb:(!(p.a==p.b&&p.b==p.a)) with
  |false=>rw[hb] at h;cases h
  |true=>rw[hb] at h;exact of_decide_eq_true h
theorem BMW{x:Prv}:∀{m k:Nat},k<=m->pvK x m=true->pvK x k=true
 |0,k,h,hm=>by
  obtain rfl:k=0:=by omega
  rfl
 |m+1,k,h,hm=>by
  by_cases hk:k=m+1
  ·subst hk;exact hm
  ·have h2:(pvK x m&&Eg x.c (gD x.l m)&&!hitJ (mtF x m) (Qt x m).toNat (pvB x m-Qt x m).toNat)=true:=hm
   rw[Bool.and_eq_true,Bool.and_eq_true] at h2
   exact BMW (by omega) h2.1.1
theorem BYE{f:Nat->Bool}{a:Nat}:∀{m k:Nat},k<=m->hitJ f a k=true->hitJ f a m=true
 |0,k,h,hm=>by
  obtain rfl:k=0:=by omega
  exact hm
 |m+1,k,h,hm=>by
  by_cases hk:k=m+1
  ·subst hk;exact hm
  ·show (hitJ f a m||f (a+m))=true
   rw[BYE (show k<=m by omega) hm];rfl
theorem BUY{x:Prv}(h1:¬(x.l.length:Int)>40)(h2:(x.l.all λp=>Ca x.c p)=true){k:Nat}(hk:k<x.l.length)(h3:pvK x (k+1)=false):(Ub x).1=false/\(Ub x).2=0:=by
 have h:pvK x x.l.length=false:=by
  cases hq:pvK x x.l.length with
  |false=>rfl
  |true=>rw[BMW (show k+1<=x.l.length from hk) hq] at h3;cases h3
 unfold Ub;rw[decide_eq_false h1,h2,h];exact⟨rfl,rfl⟩
theorem CXT(x:Prv)(h1:x.c.ms.length<4611686018427387904/\x.c.ns.length<4611686018427387904/\x.l.length<4611686018427387904)(h0:AP x.c=0):CBL x:=by
 have hl:=PR h0
 have hs:=Zu h0
 have hM:=BXR hs.1
 rw[CJH];delta zL zH AJA AIS AZJ AHY AKU AIJ AZT BCI APR ACE AAE AMA ATP eV AAU ADJ ARM ABI AQK A3 ANM yC APW yM AMR APY nU AAJ ACN ACP ATX ANB AAV ATQ ACH zD nE xY nN yZ ABT APS ACI AOB ALK AML ACW ASA ADH APV ASB ARJ ACF AOX ABF Tu ARK AAZ ABH ANY AAL AUI ACS ACZ AQZ AUQ AQO AAX ATB ADB ASZ ASI AOA AAT AOZ Z4 Tm AOW AOF Ts zN zF yG xQ yE xU Z5 nS nD ABK nT ANJ mW nO ATU mX nC yX D3 AFY gE fM cP dY fW K5 dC AFA AHM AFH fU Yn AFL I9 sE AGP AFX AFJ AGW AEX AHB AEW fQ A7 AFE AFZ AFC AHI AGX AEV AEZ AHK AGL AHP My L5 K9 D9 L4 J1 H8 K6 H7 D6 AHE AFG;simp only[CC,eq_self,implies_true,forall_const,FR,AGZ,fK,BFM,AJL,BXS]
 refine⟨⟨⟨h1.1,h1.2.1⟩,h0⟩,λhc=>?_,λhc=>⟨⟨h1.2.2,by omega⟩,λha=>?_,λha=>⟨rfl,⟨0,⟨rfl,λ_ _=>rfl⟩,Nat.zero_le _,rfl⟩,?_⟩⟩⟩
 ·unfold Ub;rw[decide_eq_true hc];exact⟨rfl,rfl⟩
 ·unfold Ub;rw[decide_eq_false hc,ha];exact⟨rfl,rfl⟩
 ·rintro k ⟨hk,hp⟩
  have hP:∀k,k<x.l.length->_:=λk hk=>AWU (by omega) (List.all_eq_true.1 ha _ (OH hk))
  have mA:∀k,k<x.l.length->0<=Qt x k/\Qt x k<x.c.ms.length:=λk hk=>hM _ (by have:=(hP k hk).1;omega)
  have mB:∀k,k<x.l.length->0<=pvB x k/\pvB x k<x.c.ms.length:=λk hk=>hM _ (by have:=(hP k hk).1;omega)
  have mL:∀k,k<x.l.length->Qt x k<pvB x k:=λk hk=>(hP k hk).2
  have eB:∀k,(gD x.c.ns (gD x.l k).b.toNat).mi=pvB x k:=λ_=>rfl
  have eA:∀k,(gD x.c.ns (gD x.l k).a.toNat).mi=Qt x k:=λ_=>rfl
  refine⟨λhlt=>⟨⟨by omega,by omega⟩,⟨(hP k (by omega)).1,⟨hl.2.1.2,hl.2.2⟩,hM⟩,λhL=>?_,λhL=>⟨(hP k (by omega)).1.1,⟨⟨k,0⟩,⟨by rw[eA];show Qt x k+((0:Nat):Int)=_;omega,rfl,λi hi=>?_,rfl,rfl⟩,⟨by show k<_;omega,rfl⟩,⟨hp,hL⟩,by have:=mL k (by omega);show Qt x k+((0:Nat):Int)<=pvB x k;omega,rfl⟩,?_⟩⟩,λhge=>?_⟩
  ·refine BUY hc ha (k:=k) (by omega) ?_
   show (pvK x k&&Eg x.c (gD x.l k)&&_)=false
   rw[hL];simp
  ·show (mtF x k i||(decide (Qt x k<=i)&&decide ((i:Int)<Qt x k+((0:Nat):Int))))=mtF x k i
   rw[show (decide (Qt x k<=i)&&decide ((i:Int)<Qt x k+((0:Nat):Int)))=false by simp,Bool.or_false]
  ·rintro⟨i,j⟩ ⟨⟨y1,y2⟩,⟨y3,y4⟩,y5,y6⟩
   dsimp only at y1 y2 y3 y4 y5 y6 ⊢
   simp only[eB]
   have a1:=mA i y1
   have b1:=mB i y1
   have l1:=mL i y1
   have e:(Qt x i+(j:Int)).toNat=(Qt x i).toNat+j:=by omega
   have eG:mtG x i j ((Qt x i).toNat+j)=mtF x i ((Qt x i).toNat+j):=by
    show (mtF x i _||(decide (Qt x i<=_)&&decide (_<Qt x i+(j:Int))))=_
    rw[decide_eq_false (show ¬(((Qt x i).toNat+j:Nat):Int)<Qt x i+(j:Int) by omega),Bool.and_false,Bool.or_false]
   refine⟨(hP i y1).1.2,λhb=>⟨⟨⟨by omega,by omega⟩,by omega⟩,λhm=>?_,λhm=>⟨⟨⟨by omega,by omega⟩,by omega⟩,⟨i,j+1⟩,⟨?_,rfl,λt ht=>?_,rfl,rfl⟩,⟨⟨y1,y2⟩,⟨y3,y4⟩,by show Qt x i+((j+1:Nat):Int)<=pvB x i;omega,?_⟩,by show 50-(j+1)<_;omega⟩⟩,λhb=>⟨i+1,⟨by rw[Ap (by omega) (by omega)];rfl,λt ht=>?_⟩,⟨by omega,?_⟩,by omega⟩⟩
   ·rw[e,eG] at hm
    refine BUY hc ha (k:=i) y1 ?_
    have h9:hitJ (mtF x i) (Qt x i).toNat (j+1)=true:=by
     show (hitJ _ _ _||_)=true
     rw[hm,Bool.or_true]
    show (pvK x i&&Eg x.c (gD x.l i)&&!hitJ _ _ _)=false
    rw[BYE (show j+1<=(pvB x i-Qt x i).toNat by omega) h9];simp
   ·show Qt x i+((j+1:Nat):Int)=_
    rw[Ap (by omega) (by omega)];omega
   ·show (mtF x i t||(decide (Qt x i<=t)&&decide ((t:Int)<Qt x i+((j+1:Nat):Int))))=bif _ then true else (mtF x i t||(decide (Qt x i<=t)&&decide ((t:Int)<Qt x i+(j:Int))))
    rw[e]
    by_cases h7:t=(Qt x i).toNat+j
    ·rw[decide_eq_true h7,decide_eq_true (show Qt x i<=t by omega),decide_eq_true (show (t:Int)<Qt x i+((j+1:Nat):Int) by omega)];simp
    ·rw[decide_eq_false h7]
     show _=(mtF x i t||_)
     congr 2
     exact decide_eq_decide.2 (by omega)
   ·rw[e,eG] at hm
    show (hitJ _ _ _||_)=false
    rw[y6,hm];rfl
   ·have e3:Qt x i+(j:Int)=pvB x i:=by omega
    show (mtF x i t||_)=(mtF x i t||(decide (Qt x i<=t)&&decide ((t:Int)<Qt x i+(j:Int))))
    rw[e3]
   ·have e3:(pvB x i-Qt x i).toNat=j:=by omega
    show (pvK x i&&Eg x.c (gD x.l i)&&!hitJ _ _ _)=true
    rw[e3,y3,y4,y6];rfl
  ·have e:k=x.l.length:=by omega
   subst e
   unfold Ub;rw[decide_eq_false hc,ha,hp];exact⟨by simp,rfl⟩
theorem BTL:AW Try.prog AJU (C_prov.spec dPrv):=okT C_prov (λ(x:Prv) h=>by
 have h1:x.c.ms.length<4611686018427387904/\x.c.ns.length<4611686018427387904/\x.l.length<4611686018427387904:=h
 by_cases h0:AP x.c=0
 ·have e:C_prov.val x=.tup [.bool (Ub x).1,.int (Ub x).2]:=by
   show AVal.tup [.bool (Jb x).1,.int (Jb x).2]=_
   unfold Jb;rw[h0];rfl
  rw[e]
  exact Wk (A:=BYG x) (L:=[]) (keep:=[]) (ren:=[]) (fz:=[]) BEE (by kernel_rfl) (AA ABR (AA DCX (AA BGW AK))) (CXT x h1 h0)
 ·have h0':(AP x.c==0)=false:=by simpa using h0
  have e:C_prov.val x=.tup [.bool false,.int (AP x.c)]:=by
   show AVal.tup [.bool (Jb x).1,.int (Jb x).2]=_
   unfold Jb;rw[h0'];rfl
  rw[e]
  refine Wk (A:=BUU) (L:=[]) (keep:=[]) (ren:=[]) (fz:=[]) BEE (by kernel_rfl) (AA O1 AK) ?_
  show BSE x;rw[CGU]<;> delta MD Iv BH BK DY EM EO CH AB CJ CE AY CG FV EB FX EC GY GX GR GG DV FO FU WB US QR VS Rn GA lZ AH CK IW AX JE AI BC AV AF IK IN GJ AQ JB BB AC BZ CN BF MC AE AO BD HK DD LZ AZ DC BR BE BS BJ AR BQ SZ BV HF CI OC AS BM CY BY CF IE CU GW CX OE FQ DF DU HY DR OD FW AT JA OF EZ BO BW AL AN AM ID MR IL UP NQ Ao MG RQ Bf YH Cm TY Hy Vj Kl Ic Ki fT;simp only[CC,eq_self,implies_true,forall_const,FR]
  simp[h1,h0]) _
structure CP where
 c:Cht
 p:Pr
def dCP:List AVal->Heap->Option (CP×List (Nat×Nat)×List Nat)
 |[x,.d p],H=>match tN x H with
  |some (c,f)=>some (⟨c,dPr p⟩,[],f)
  |none=>none
 |_,_=>none
def xCP(x:CP):List AVal:=[.d (Nj x.c),.d (ePr x.p)]
def latO(x:CP):Bool×Int:=bif Ca x.c x.p then (Eg x.c x.p,0) else (false,2)
def uD(x:CP):Bool×Int:=bif AP x.c==0 then latO x else (false,AP x.c)
def C_Late:Ctr:={ α:=CP,xs:=xCP,val:=λx=>.tup [.bool (uD x).1,.int (uD x).2],keep:=λ_=>[],pre:=λx=>[x.c.ms.length<4611686018427387904/\x.c.ns.length<4611686018427387904] }
def CGR:Ann:=ann 25 [(Iz,C_open.spec iT),(BDC,C_pair.spec dDkP),(BDF,C_late.spec dDkP)]
def CIH(x:CP):Prop:=ES Try.prog CGR BDI (AJ BDI) (xCP x) (AD []) (.tup [.bool (latO x).1,.int (latO x).2]) [] [] []
abbrev FD:=CP.c
abbrev lV:=CP.p
abbrev LN a:=OQ (FD a)
abbrev Om a b:=CW (HF a) b
abbrev Gq a:=JF (lV a)
abbrev Rb a:=JM (lV a)
abbrev lN a:=FQ (FD a)
abbrev gY:=AB Bm
abbrev gP a b:=AE (FD a) b
abbrev gX a b:=AC (FD a) b
attribute [go_sem] FD lV LN Om Gq Rb lN gY gP gX
theorem CJZ(x:CP):(CIH x)=(AH (Ki (FD x) (λi=>AT i (FD x) (AM (FD x) i) (AN (FD x) i) (AS (FD x) i) (gX x i) (AL (FD x) i) (AR (FD x) i) (gP x i)) (SA (FD x))) (And (AF (Rb x)) (Jv (AF (Gq x)) (BY (LN x)) (LN x) (BM (LN x)) (BV (LN x)) (BQ (LN x)) (UZ (LN x) (λi=>AT i (LN x) (AM (LN x) i) (AN (LN x) i) (AS (LN x) i) (AC (LN x) i) (AL (LN x) i) (AR (LN x) i) (AE (LN x) i)) Bm (CM (lN x)) (QG (MF (LN x)) (BY (LN x)) (LN x) (BM (LN x)) (BV (LN x)) (BQ (LN x)) (HS (LN x)) (λi=>JL i (LN x)) (VP (LN x) (λi=>AU i (LN x) (EI (LN x) i) (EJ (LN x) i) (AC (LN x) i) (AS (LN x) i) (EH (LN x) i) (AE (LN x) i) (AR (LN x) i)) Bm (Bi (lN x)) (Ss (LN x)) IP))))) (pR (not (Yr (FQ (LN x)) (lV x))) (Wg (latO x)) (Yo (Ua (latO x))) (Qx (Ir (AF (Rb x)) (AF (Gq x)) (LN x) (BW (LN x)) (Hp (LN x) (λi=>AT i (LN x) (AM (LN x) i) (AN (LN x) i) (AS (LN x) i) (AC (LN x) i) (AL (LN x) i) (AR (LN x) i) (AE (LN x) i)) gY (Bi (lN x)) (Bh (λi=>AU i (LN x) (EI (LN x) i) (EJ (LN x) i) (AC (LN x) i) (AS (LN x) i) (EH (LN x) i) (AE (LN x) i) (AR (LN x) i)) Bm (LN x) (Bi (lN x)) (YG (Rb x) (HF (LN x)) (BX (Gq x)) (cL (Gq x) (LN x))) (KH (HK (LN x)) 40 (Om (LN x) 20)) (AB (λi=>Pb i (HF (LN x)) (IE (LN x) i) (DN (IE (LN x) i) (HK (LN x)))))))) (MD (Wg (latO x)) (tF (FQ (LN x)) (lV x))) (Ua (latO x))))):=by kernel_rfl
def BTH:Ann:=ann 25 [(Iz,C_openX.spec iT)]
def BTZ(x:CP):Prop:=ES Try.prog BTH BDI (AJ BDI) (xCP x) (AD []) (.tup [.bool false,.int (AP x.c)]) [] [] []
theorem CFX(x:CP):(BTZ x)=(Ic (Ki (FD x) (λi=>AT i (FD x) (AM (FD x) i) (AN (FD x) i) (AS (FD x) i) (gX x i) (AL (FD x) i) (AR (FD x) i) (gP x i)) (fT (FD x))) (Kl (FD x)) Hy (Cm (FD x) (Ao (FD x))) VS):=by kernel_rfl
theorem CMH:AW Try.prog BOK (C_Late.spec dCP):=okT C_Late (λ(x:CP) h=>by
 have h1:x.c.ms.length<4611686018427387904/\x.c.ns.length<4611686018427387904:=h
 by_cases h0:AP x.c=0
 ·have hl:=PR h0
  have hs:=Zu h0
  have hM:=BXR hs.1
  have e:C_Late.val x=.tup [.bool (latO x).1,.int (latO x).2]:=by
   show AVal.tup [.bool (uD x).1,.int (uD x).2]=_
   unfold uD;rw[h0];rfl
  rw[e]
  refine Wk (A:=CGR) (L:=[]) (keep:=[]) (ren:=[]) (fz:=[]) BRE (by kernel_rfl) (AA ABR (AA BSZ (AA BGW AK))) ?_
  show CIH x;rw[CJZ]<;> delta MD Iv BH BK DY EM EO CH AB CJ CE AY CG CW FV HD KA EB FX EC GY GX GR GG DV FO FU IP US YU KM WU BN YV Wg Ua JM JF Yr tF FD lV AH CK IW AX JE AI CO BC AV AF IK IN GJ AQ JB BB AC BZ CN Eh BF MC AE AO BD HK DD LZ AZ DC BR BE BS BJ Ch AR BQ SZ BV HF ZK CI OC AS BM CY Oc BY CF IE BX TV CU GW YS DN CX Cx OE FQ DF DU OQ HY DR OD Ql DT LN LR Gi KQ FG FW Qe AT JA HE OF CR EZ WK RG Fs AU DO DI CS GZ DZ BO BW AL AN AM ID HQ Ct NP MQ MN DK VI SC QD Eb TF TQ KH KS HS Gr MR EH EJ EI IL Fo Eo Do JL IA Ha TE Bm MI Fh Ff MF WJ Gw VZ SA RQ Bi YG Bf YH Gq VQ Rb TY Gd QG Lx pR Om Jt Pq Vj lJ Pb gY VP UZ Ir Ss lN Xd gP Xb gX Ki Vw Jv Hp Qx cL Yo Bh;simp only[CC,eq_self,implies_true,forall_const,FR,AGZ,fK,BFM,AJL,BXS]
  refine⟨⟨h1,h0⟩,⟨by omega,λhp=>?_,λhp=>⟨⟨(AWU (by omega) hp).1,⟨hl.2.1.2,hl.2.2⟩,hM⟩,?_⟩⟩⟩
  ·unfold latO;rw[hp];exact⟨rfl,rfl⟩
  ·unfold latO;rw[hp];exact⟨rfl,rfl⟩
 ·have h0':(AP x.c==0)=false:=by simpa using h0
  have e:C_Late.val x=.tup [.bool false,.int (AP x.c)]:=by
   show AVal.tup [.bool (uD x).1,.int (uD x).2]=_
   unfold uD;rw[h0'];rfl
  rw[e]
  refine Wk (A:=BTH) (L:=[]) (keep:=[]) (ren:=[]) (fz:=[]) BRE (by kernel_rfl) (AA O1 AK) ?_
  show BTZ x;rw[CFX]<;> delta MD Iv BH BK DY EM EO CH AB CJ CE AY FV EB FX EC GY GX GR GG DV FO FU US QR VS Rn FD AH CK IW AX JE AI BC AV AF IK IN GJ AQ JB BB AC BZ CN BF MC AE AO BD HK DD LZ AZ DC BR BE BS BJ AR BQ SZ BV HF CI OC AS BM CY BY CF IE CU GW CX OE FQ DF DU HY DR OD FW AT JA OF EZ BO BW AL AN AM ID MR IL NQ Ao MG RQ Bf YH Cm TY Hy Vj Kl Ic gP gX Ki fT;simp only[CC,eq_self,implies_true,forall_const,FR]
  simp[h1,h0]) _
end Go.Bal
