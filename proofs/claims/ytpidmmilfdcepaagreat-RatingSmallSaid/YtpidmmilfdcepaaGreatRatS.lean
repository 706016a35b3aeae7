/- Package rating: what ties; gaugings that are picked. -/
import Derived.Test.YtpidmmilfdcepaaGreatRatR
set_option linter.unusedVariables false
set_option linter.unusedSimpArgs false
namespace Go.Bal
open Go Go.Sym Go.Proofs
def PC(a:GK):Bool:=bif (Cn a).2 then !(EV (Cn a).1).2 else false
def dKt:List AVal->Heap->Option (GK×List (Nat×Nat)×List Nat)
 |[x,.bptr id _],H=>match Xt x H,H id with
  |some (m,e),.live (.box [.d (.list _ n h _)])=>some (⟨HA n λi=>Ky (h i),m⟩,[(100,id)],e)
  |_,_=>none
 |_,_=>none
def C_kt1:Ctr:={ ro:=[100],α:=GK,xs:=λa=>[.d (AZ a.k),.bptr 100 0],L:=λa=>[(100,bxG a.g)],val:=λa=>.bool (PC a),keep:=λa=>[(100,.live (bxG a.g))],pre:=λa=>[(a.g.length<1073741824/\a.k.length<1073741824)/\∀g∈a.g,IT g] }
def CMY:Ann:={ ann 17 [(77,C_named.spec dGK),(78,C_isKnot.spec dGsK)] with E:=[100] }
def CPH(a:GK):Prop:=AS ZP CMY Tryz.f131 (AE Tryz.f131) (C_kt1.xs a) (AB (C_kt1.L a)) (C_kt1.val a) (C_kt1.keep a) [] []
abbrev AHD:=PC
attribute [go_sem] AHD
theorem CSJ(a:GK):(CPH a)=(AR (Sd (AY (CI a)) (BJ (CI a)) (GW a) (CM (GW a)) (HV (CI a)) (LV (GW a))) (FA (dM (CI a) (GW a)) (BD (AY (Xz a a)) (BJ (Xz a a)) (HV (Xz a a)) (Sn (Xz a a)))) (Mn (AHD a) (dM (CI a) (GW a)) (To (Xz a a))) (BQ (CI a)) (AP (CI a))):=by kernel_rfl
def knt3(g:List Gau)(a b:Int):List Int->Option (List Int)
 |[]=>none
 |c :: cs=>bif PC ⟨g,[a,b,c]⟩ then some [a,b,c] else knt3 g a b cs
def orO(x y:Option (List Int)):Option (List Int):=match x with
 |some z=>some z
 |none=>y
def knt2(g:List Gau)(a:Int):List Int->Option (List Int)
 |[]=>none
 |b :: cs=>bif PC ⟨g,[a,b]⟩ then some [a,b] else orO (knt3 g a b cs) (knt2 g a cs)
def iZ(g:List Gau):List Int->Option (List Int)
 |[]=>none
 |a :: bs=>orO (knt2 g a bs) (iZ g bs)
def Vp(a:GK):List Int:=(iZ a.g a.k).getD []
structure IJK where
 i:Nat
 j:Nat
 k:Nat
 deriving Inhabited
structure IJ2 where
 i:Nat
 j:Nat
 deriving Inhabited
def kdS(a:GK)(i:Nat):List (Nat×AVal):=[(1,.d (AZ a.k)),(5,.fn (.func 131) [] [.bptr 1000 0]),(13,.d (AZ a.k)),(14,.int a.k.length),(15,.int i)]
def kdT(a:GK)(i j:Nat):List (Nat×AVal):=kdS a i ++ [(6,.int i),(7,.int (gD a.k i)),(23,.d (AZ (a.k.drop (i+1)))),(24,.int (a.k.drop (i+1)).length),(25,.int j)]
def kdH(a:GK):List (Nat×HCell):=[(1000,.live (bxG a.g))]
def kd3(a:GK):Shape:={ α:=Nat,dflt:=0,T:=λi=>⟨kdS a i,kdH a⟩,inv:=λi=>i<=a.k.length/\iZ a.g a.k=iZ a.g (a.k.drop i),meas:=λi=>a.k.length-i }
def kd6(a:GK)(m:Nat):Shape:={ α:=IJ2,dflt:=default,T:=λx=>⟨kdT a x.i x.j,kdH a⟩,inv:=λx=>a.k.length-x.i=m/\x.i<a.k.length/\x.j<=(a.k.drop (x.i+1)).length/\iZ a.g a.k=orO (knt2 a.g (gD a.k x.i) ((a.k.drop (x.i+1)).drop x.j)) (iZ a.g (a.k.drop (x.i+1))),meas:=λx=>(a.k.drop (x.i+1)).length-x.j }
def kd11(a:GK)(m q:Nat):Shape:={ α:=IJK,dflt:=default,T:=λx=>⟨kdT a x.i x.j ++ [(9,.int (gD (a.k.drop (x.i+1)) x.j)),(43,.d (AZ (a.k.drop (x.i+x.j+2)))),(44,.int (a.k.drop (x.i+x.j+2)).length),(45,.int x.k)],kdH a⟩,inv:=λx=>a.k.length-x.i=m/\x.i<a.k.length/\(a.k.drop (x.i+1)).length-x.j=q/\x.j<(a.k.drop (x.i+1)).length/\x.k<=(a.k.drop (x.i+x.j+2)).length/\iZ a.g a.k=orO (orO (knt3 a.g (gD a.k x.i) (gD (a.k.drop (x.i+1)) x.j) ((a.k.drop (x.i+x.j+2)).drop x.k)) (knt2 a.g (gD a.k x.i) (a.k.drop (x.i+x.j+2)))) (iZ a.g (a.k.drop (x.i+1))),meas:=λx=>(a.k.drop (x.i+x.j+2)).length-x.k }
def C_kd:Ctr:={ α:=GK,xs:=xGK,L:=λ_=>[],val:=λa=>.d (AZ (Vp a)),keep:=λ_=>[],pre:=λa=>[(a.g.length<1073741824/\a.k.length<1073741824)/\∀g∈a.g,IT g] }
def A_kd(a:GK):Ann:={ ann 62 [(131,C_kt1.spec dKt)] with md:=λid=>if id=8 then some (λk=>if k=3 then 4 else 0) else if id=9 then some (λk=>if k=2 then 4 else 0) else if id=13 then some (λk=>if k=4 then 4 else 0) else if id=14 then some (λk=>if k=3 then 4 else 0) else none,loops:=λid=>if id=3 then some [kd3 a] else none,inner:=λgs id=>if id=6 then some [kd6 a (gs.getD 0 0)] else if id=11 then some [kd11 a (gs.getD 1 0) (gs.getD 0 0)] else none }
def V_kd(a:GK):Prop:=AS ZP (A_kd a) Tryz.f112 (AE Tryz.f112) (xGK a) (AB []) (C_kd.val a) [] [] []
abbrev Mw(a:GK):Prop:=a.k.length=a.k.length
abbrev Mt(a:GK):Prop:=∀(i:Nat),i<a.k.length->gD a.k i=gD a.k i
abbrev V3(a:GK):Prop:=(↑a.k.length:Int)=(↑a.k.length:Int)
abbrev K0(a:GK):Prop:=a.g.length=a.g.length/\∀(i:Nat),i<a.g.length->(gD a.g i).st=(gD a.g i).st/\(gD a.g i).lo=(gD a.g i).lo/\(gD a.g i).hi=(gD a.g i).hi
abbrev AWM(a:Nat)(a1:GK):Prop:=a<=a1.k.length/\iZ a1.g a1.k=iZ a1.g (List.drop a a1.k)
abbrev BLL(a:Nat)(a1:GK):Prop:=(↑a:Int)<(↑a1.k.length:Int)
abbrev AYC(a:Nat):Int:=IntKind.i64.wrap ((↑a:Int)+1)
abbrev BLE(a:GK):Prop:=(↑a.k.length:Int)<=(↑a.k.length:Int)
abbrev BLA(a:IJ2)(a1:Nat):Prop:=(↑a.i:Int)=(↑a1:Int)
abbrev AGU(a:IJ2)(a1:GK):List Int:=List.drop (a.i+1) a1.k
abbrev Iy(a:IJ2)(a1:GK):Nat:=(AGU a a1).length
abbrev AXV(a:Nat):Nat:=(AYC a).toNat
abbrev AUF(a:GK)(a1:Nat):Nat:=a.k.length-AXV a1
abbrev BCB(i:Nat)(a:IJ2)(a1:GK):Prop:=i<Iy a a1
abbrev AJX(a:IJ2)(a1:GK)(i:Nat):Int:=gD (AGU a a1) i
abbrev AAS(a:GK)(a1:Nat):Nat:=a.k.length-a1
abbrev AKO(a:GK)(a1:IJ2)(a2:Nat):Prop:=a.k.length-a1.i=AAS a a2/\a1.i<a.k.length/\a1.j<=Iy a1 a/\iZ a.g a.k=orO (knt2 a.g (gD a.k a1.i) (List.drop a1.j (AGU a1 a))) (iZ a.g
 (AGU a1 a))
abbrev BBE(a:IJ2)(a1:GK):Prop:=(↑a.j:Int)<(↑(Iy a a1):Int)
abbrev AWB(i:Nat):Bool:=decide (i=0)
abbrev AZR(a:IJ2)(a1:GK):Int:=gD (AGU a a1) a.j
abbrev AJA(i:Nat)(a:GK)(a1:IJ2):Int:=bif AWB i then gD a.k a1.i else AZR a1 a
abbrev AJR(a:GK)(a1:IJ2):List Int:=HA 2 λ(i:Nat)=>AJA i a a1
abbrev AJS(a:GK)(a1:IJ2):Nat:=(AJR a a1).length
abbrev A5(a:GK):List Gau:=HA a.g.length λ(i:Nat)=>gD a.g i
abbrev AAB(a:GK):Nat:=(A5 a).length
abbrev AVW(a:GK):Prop:=AAB a=a.g.length
abbrev AJM(a:GK)(i:Nat):Gau:=gD (A5 a) i
abbrev BCW(a:GK)(i:Nat):Int:=(AJM a i).st
abbrev AYU(a:GK)(i:Nat):Int:=(AJM a i).lo
abbrev AYV(a:GK)(i:Nat):Int:=(AJM a i).hi
abbrev BAN(a:GK):Prop:=∀(i:Nat),i<AAB a->BCW a i=(gD a.g i).st/\AYU a i=(gD a.g i).lo/\AYV a i=(gD a.g i).hi
abbrev AYN(a:GK):Prop:=a.g.length=AAB a
abbrev BCG(a:GK):Prop:=∀(i:Nat),i<a.g.length->(gD a.g i).st=BCW a i/\(gD a.g i).lo=AYU a i/\(gD a.g i).hi=AYV a i
abbrev AXW(a:GK):Prop:=AAB a<1073741824
abbrev AZN(a:GK):Prop:=∀(g:Gau),List.Mem g (A5 a)->0<=g.st/\g.st<=2000/\0<=g.lo/\g.lo<=g.hi/\g.hi<=200000
abbrev AIZ(a:IJ2):Int:=IntKind.i64.wrap (IntKind.i64.wrap ((↑a.i:Int)+(↑a.j:Int))+2)
abbrev AVO(a:IJK)(a1:IJ2):Prop:=(↑a.i:Int)=(↑a1.i:Int)
abbrev ABS(a:IJK)(a1:GK):List Int:=List.drop (a.i+1) a1.k
abbrev Ff(a:IJK)(a1:GK):Nat:=(ABS a a1).length
abbrev AWX(i:Nat)(a:IJK)(a1:GK):Prop:=i<Ff a a1
abbrev AAV(a:IJK)(a1:GK)(i:Nat):Int:=gD (ABS a a1) i
abbrev B6(a:IJK)(a1:GK):Int:=gD (ABS a a1) a.j
abbrev E7(a:IJK)(a1:GK):List Int:=List.drop (a.i+a.j+2) a1.k
abbrev Ja(a:IJK)(a1:GK):Nat:=(E7 a a1).length
abbrev AZM(a:IJ2):Nat:=(AIZ a).toNat
abbrev BBR(a:GK)(a1:IJ2):Nat:=a.k.length-AZM a1
abbrev AUK(i:Nat)(a:IJK)(a1:GK):Prop:=i<Ja a a1
abbrev AIY(a:IJK)(a1:GK)(i:Nat):Int:=gD (E7 a a1) i
abbrev AKD(a:IJ2)(a1:GK):Nat:=Iy a a1-a.j
abbrev AJW(a:GK)(a1:IJK)(a2:Nat)(a3:IJ2):Prop:=a.k.length-a1.i=AAS a a2/\a1.i<a.k.length/\Ff a1 a-a1.j=AKD a3 a/\a1.j<Ff a1 a/\a1.k<=Ja a1 a/\iZ a.g a.k =
 orO (orO (knt3 a.g (gD a.k a1.i) (B6 a1 a) (List.drop a1.k (E7 a1 a))) (knt2 a.g (gD a.k a1.i) (E7 a1 a))) (iZ a.g (ABS a1 a))
abbrev AZT(a:IJK)(a1:GK):Prop:=(↑a.k:Int)<(↑(Ja a a1):Int)
abbrev AKP(i:Nat)(a:GK)(a1:IJK):Int:=bif AWB i then gD a.k a1.i else bif decide (i-1=0) then B6 a1 a else gD (E7 a1 a) a1.k
abbrev AJL(a:GK)(a1:IJK):List Int:=HA 3 λ(i:Nat)=>AKP i a a1
abbrev AJV(a:GK)(a1:IJK):Nat:=(AJL a a1).length
abbrev AVL(a:IJK)(a1:IJK):Prop:=(↑a.i:Int)=(↑a1.i:Int)
abbrev BCR(a:IJK)(a1:GK):Nat:=Ja a a1-a.k
abbrev BBZ(a:IJ2)(a1:IJK):Prop:=(↑a.i:Int)=(↑a1.i:Int)
abbrev BBO(a:GK):Prop:=(Vp a).length=0
theorem DCK(a:GK):(V_kd a)=((∃(a_1:Nat),(Mw a/\Mt a/\Mw a/\Mt a/\V3 a/\(↑a_1:Int)=0/\K0 a)/\AWM a_1 a)/\∀(a_1:Nat),AWM a_1 a->bif decide (BLL a_1 a) then (0
 <= (↑a_1:Int)/\BLL a_1 a)/\(0<=AYC a_1/\AYC a_1<=(↑a.k.length:Int)/\BLE a)/\(∃(a_3:IJ2),(Mw a/\Mt a/\Mw a/\Mt a/\V3 a/\BLA a_3 a_1/\BLA a_3 a_1/\gD a.k a_3.i =
 gD a.k a_1/\Iy a_3 a=AUF a a_1/\(∀(i:Nat),BCB i a_3 a->AJX a_3 a i=gD a.k (AXV a_1+i))/\(↑(Iy a_3 a):Int)=(↑(AUF a a_1):Int)/\(↑a_3.j:Int)=0/\K0 a)/\AKO a
 a_3 a_1)/\∀(a_3:IJ2),AKO a a_3 a_1->bif decide (BBE a_3 a) then (0<=(↑a_3.j:Int)/\BBE a_3 a)/\(AJS a a_3=2/\(∀(i:Nat),i<AJS a a_3->gD (AJR a a_3) i=AJA i a a_3) /\
 AVW a/\BAN a/\AYN a/\BCG a/\(AXW a/\AJS a a_3<1073741824)/\AZN a)/\bif PC (GK.mk (A5 a) (AJR a a_3)) then (Vp a).length=2/\∀(i:Nat),i<(Vp a).length->gD (Vp
 a) i=AJA i a a_3 else (0<=AIZ a_3/\AIZ a_3<=(↑a.k.length:Int)/\BLE a)/\(∃(a_5:IJK),(Mw a/\Mt a/\Mw a/\Mt a/\V3 a/\AVO a_5 a_3/\AVO a_5 a_3/\gD a.k a_5.i=gD
 a.k a_3.i/\Ff a_5 a=Iy a_3 a/\(∀(i:Nat),AWX i a_5 a->AAV a_5 a i=AJX a_3 a i)/\(↑(Ff a_5 a):Int)=(↑(Iy a_3 a):Int)/\(↑a_5.j:Int)=(↑a_3.j:Int)/\B6 a_5 a =
 AZR a_3 a/\Ja a_5 a=BBR a a_3/\(∀(i:Nat),AUK i a_5 a->AIY a_5 a i=gD a.k (AZM a_3+i))/\(↑(Ja a_5 a):Int)=(↑(BBR a a_3):Int)/\(↑a_5.k:Int)=0/\K0 a)/\AJW
 a a_5 a_1 a_3)/\∀(a_5:IJK),AJW a a_5 a_1 a_3->bif decide (AZT a_5 a) then (0<=(↑a_5.k:Int)/\AZT a_5 a)/\(AJV a a_5=3/\(∀(i:Nat),i<AJV a a_5->gD (AJL a a_5) i=AKP i a
 a_5)/\AVW a/\BAN a/\AYN a/\BCG a/\(AXW a/\AJV a a_5<1073741824)/\AZN a)/\bif PC (GK.mk (A5 a) (AJL a a_5)) then (Vp a).length=3/\∀(i:Nat),i<(Vp a).length ->
 gD (Vp a) i=AKP i a a_5 else ∃(a_7:IJK),(Mw a/\Mt a/\Mw a/\Mt a/\V3 a/\AVL a_7 a_5/\AVL a_7 a_5/\gD a.k a_7.i=gD a.k a_5.i/\Ff a_7 a=Ff a_5 a/\(∀(i:Nat),
 AWX i a_7 a->AAV a_7 a i=AAV a_5 a i)/\(↑(Ff a_7 a):Int)=(↑(Ff a_5 a):Int)/\(↑a_7.j:Int)=(↑a_5.j:Int)/\B6 a_7 a=B6 a_5 a/\Ja a_7 a=Ja a_5 a/\(∀(i:Nat),
 AUK i a_7 a->AIY a_7 a i=AIY a_5 a i)/\(↑(Ja a_7 a):Int)=(↑(Ja a_5 a):Int)/\(↑a_7.k:Int)=IntKind.i64.wrap ((↑a_5.k:Int)+1)/\K0 a)/\AJW a a_7 a_1 a_3/\BCR a_7 a <
 BCR a_5 a else ∃(a_7:IJ2),(Mw a/\Mt a/\Mw a/\Mt a/\V3 a/\BBZ a_7 a_5/\BBZ a_7 a_5/\gD a.k a_7.i=gD a.k a_5.i/\Iy a_7 a=Ff a_5 a/\(∀(i:Nat),BCB i a_7 a ->
 AJX a_7 a i=AAV a_5 a i)/\(↑(Iy a_7 a):Int)=(↑(Ff a_5 a):Int)/\(↑a_7.j:Int)=IntKind.i64.wrap ((↑a_5.j:Int)+1)/\K0 a)/\AKO a a_7 a_1/\AKD a_7 a<AKD a_3 a else ∃
 (a_5:Nat),(Mw a/\Mt a/\Mw a/\Mt a/\V3 a/\(↑a_5:Int)=IntKind.i64.wrap ((↑a_3.i:Int)+1)/\K0 a)/\AWM a_5 a/\AAS a a_5<AAS a a_1 else BBO a/\BBO a):=by
 kernel_rfl
structure GPk where
 g:List Gau
 o:List Int
 a:Int
 b:Int
def dGPk:List AVal->Heap->Option (GPk×List (Nat×Nat)×List Nat)
 |[.d x,.d y,.bptr c _,.bptr id _],H=>match H id,H c with
  | .live (.box [.d (.list _ n h _)]),.live (.box [.d (.list _ m r _)])=>some (⟨HA n λi=>Ky (h i),HA m λi=>EG (r i),EG x,EG y⟩,[(100,id),(101,c)],[])
  |_,_=>none
 |_,_=>none
def Vr(a:GPk):List Int:=(a.o.take a.b.toNat).drop a.a.toNat
def pkM(a:GPk):List Gau:=(Vr a).map λi=>gD a.g i.toNat
def pkH(a:GPk):List (Nat×HCell):=[(101,.live (.box [.d (AZ a.o)])),(100,.live (bxG a.g))]
def pk3n(a:GPk):Shape:={ α:=One,dflt:=default,T:=λ_=>⟨[(3,.bptr 100 0),(7,.d NC),(13,.d (AZ (Vr a))),(14,.int (Vr a).length),(15,.int 0)],pkH a⟩,inv:=λ_=>True,meas:=λ_=>(Vr a).length+1 }
def pk3o(a:GPk):Shape:={ α:=GsK,dflt:=default,T:=λx=>⟨[(3,.bptr 100 0),(7,.own 201 3 0 x.l.length),(13,.d (AZ (Vr a))),(14,.int (Vr a).length),(15,.int x.i)],pkH a ++ [(201,.live (rowG x.l))]⟩,inv:=λx=>1<=x.i/\x.i<=(Vr a).length/\x.l=((Vr a).take x.i).map λi=>gD a.g i.toNat,meas:=λx=>(Vr a).length-x.i,again:=[(201,6096)] }
def C_pk:Ctr:={ ro:=[100,101],α:=GPk,xs:=λa=>[.int a.a,.int a.b,.bptr 101 0,.bptr 100 0],L:=λa=>[(101,.box [.d (AZ a.o)]),(100,bxG a.g)],val:=λa=>.d (AT (pkM a)),keep:=pkH,pre:=λa=>[(0<=a.a/\a.a<=a.b/\a.b<=a.o.length/\a.o.length<1073741824)/\∀x∈a.o,0<=x/\x<a.g.length] }
def A_pk(a:GPk):Ann:={ ann 28 [] with E:=[101,100],mt:=λid=>id==5,loops:=λid=>if id=3 then some [pk3n a,pk3o a] else none }
def V_pk(a:GPk):Prop:=AS ZP (A_pk a) Tryz.f111 (AE Tryz.f111) (C_pk.xs a) (AB (C_pk.L a)) (C_pk.val a) (C_pk.keep a) [] [201]
abbrev iY:=GPk.o
abbrev Ia:=GPk.g
abbrev gK a:=GZ (Vr a)
abbrev Te a b c:=BL a (O1 b c)
abbrev nU a b:=TJ (NV a) b
attribute [go_sem] iY Ia gK Te nU
theorem DCI(a:GPk):(V_pk a)=(BD (AO (FJ (GPk.a a)) (KO (GPk.a a) (GPk.b a)) (gY (GPk.b a) (iY a))) (KZ (EN (BK AN (OD (Vr a) (nU (GPk.b a) (NV (GPk.a a)))) (AG (λi=>M0 i (Vr a) (iY a) (sG (NV (GPk.a a)) i))) (AI (gK a) (nU (GPk.b a) (NV (GPk.a a)))) BB (IW (iY a)) (EZ (iY a)) (BQ (Ia a)) (AP (Ia a))))) (Ep (λi=>So HO 0 (NP (Vr a)) (AO (VL (gK a)) (Dp (VA (Vr a) 0 (Ia a)) X4 Dl Xg 1 24) (I4 (λj=>Je (BD AF (Oo j 1) (IW (Vr a)) (UQ (EZ (Vr a)) (BP (gK a)) (oW (CF j)) (IW (iY a)) (EZ (iY a)) (BQ (Ia a)) (λk=>fX k (Ia a)) (Oo j 1) (λk=>S1 k (JG j) (Ia a) (O1 (Vr a) DW)))) (EE (W6 j) (CF j) (gK a) (Gv j (AON (λk=>sU (Ia a) (NV k)) (G5 (CF j) (Vr a))))) (gK a) (CF j) (ZT (Vr a))))) (AW (Td (pkM a)) (Td (pkM a)) (IW (iY a)) (EZ (iY a)) (BQ (Ia a)) (AP (Ia a))))) (ATH (λi=>YH (EE (W6 i) (CF i) (gK a) (Gv i (AON (λj=>sU (Ia a) (NV j)) (G5 (CF i) (Vr a))))) (CF i) (gK a) (JL (CF i) (Vr a)) (Dp (VA (Vr a) (CF i) (Ia a)) (XY (JG i) (AAL 0 (JG i) Iq)) Dl Ws (Tc i) (vK (Tc i))) (I4 (λj=>Am (BD AF (Oo j (Tc i)) (IW (Vr a)) (UQ (EZ (Vr a)) (BP (gK a)) (AJ (CF j) (CF i)) (IW (iY a)) (EZ (iY a)) (BQ (Ia a)) (λk=>fX k (Ia a)) (Oo j (Tc i)) (λk=>Pg k (JG j) (gB k i (BL (JG i) k) (Te (Ia a) (Vr a) (CF i))) (gB k i (DF (JG i) k) (DF (Ia a) (O1 (Vr a) (CF i)))) (gB k i (DG (JG i) k) (DG (Ia a) (O1 (Vr a) (CF i))))))) (W6 j) (CF j) (gK a) (Gv j (AON (λk=>sU (Ia a) (NV k)) (G5 (CF j) (Vr a)))) (CF i))) (Tl (fK (pkM a) i) (AOS i) (AR (fS (pkM a) (JG i)) (IW (iY a)) (EZ (iY a)) (BQ (Ia a)) (AP (Ia a))))))):=by kernel_rfl
theorem CUQ:AH ZP 131 (C_kt1.spec dKt):=PW C_kt1 (λ_=>CMY) [] [] Tryz.func131 (λ_=>by kernel_rfl) (λ_=>AA ABG (AA iP AD)) (λ(a:GK) h=>by
 show CPH a;rw[CSJ]<;> dsimp only[go_sem];simp only[CC,CU]
 obtain⟨⟨h1,h2⟩,h3⟩:(a.g.length<1073741824/\a.k.length<1073741824)/\∀g∈a.g,IT g:=h
 exact⟨⟨h1,h2⟩,λ_=>BNH h3 h1,rfl⟩) (λ_=>RA rfl rfl) _
theorem ANV{l:List Int}{i:Nat}(h:i<l.length):l.drop i=gD l i :: l.drop (i+1):=by
 rw[List.drop_eq_getElem_cons h];simp[gD,List.getD_eq_getElem?_getD,h]
theorem Pp(l:List Int)(i j:Nat):gD (l.drop i) j=gD l (i+j):=by
 simp[gD,List.getD_eq_getElem?_getD]
theorem rng2(a b:Int):(HA 2 λi=>bif decide (i=0) then a else b)=[a,b]:=rfl
theorem rng3(a b c:Int):(HA 3 λi=>bif decide (i=0) then a else bif decide (i-1=0) then b else c)=[a,b,c]:=rfl
theorem all2(a b:Int):∀i,i<2->gD [a,b] i=bif decide (i=0) then a else b:=λi hi=>by
 match i,hi with
 |0,_=>rfl
 |1,_=>rfl
theorem all3(a b c:Int):∀i,i<3->gD [a,b,c] i=bif decide (i=0) then a else bif decide (i-1=0) then b else c:=λi hi=>by
 match i,hi with
 |0,_=>rfl
 |1,_=>rfl
 |2,_=>rfl
theorem BLS(g:List Gau)(a:Int)(bs:List Int):iZ g (a :: bs)=orO (knt2 g a bs) (iZ g bs):=rfl
theorem BKR(g:List Gau)(a b:Int)(cs:List Int):knt2 g a (b :: cs)=bif PC ⟨g,[a,b]⟩ then some [a,b] else orO (knt3 g a b cs) (knt2 g a cs):=rfl
theorem BHA(g:List Gau)(a b c:Int)(cs:List Int):knt3 g a b (c :: cs)=bif PC ⟨g,[a,b,c]⟩ then some [a,b,c] else knt3 g a b cs:=rfl
theorem p_kd(a:GK)(h1:a.g.length<1073741824)(h2:a.k.length<1073741824)(h3:∀g∈a.g,IT g):V_kd a:=by
 rw[DCK];delta Mw Mt V3 K0 AWM BLL AYC BLE BLA AGU Iy AXV AUF BCB AJX AAS AKO BBE AWB AZR AJA AJR AJS A5 AAB AVW AJM BCW AYU AYV BAN AYN BCG AXW AZN AIZ AVO ABS Ff AWX AAV B6 E7 Ja AZM BBR AUK AIY AKD AJW AZT AKP AJL AJV AVL BCR BBZ BBO;simp only[CC,CU,List.length_drop,rng2,rng3]
 refine⟨⟨0,rfl,Nat.zero_le _,rfl⟩,λi ⟨hi,hI⟩=>⟨λhlt=>?_,λhge=>?_⟩⟩
 ·have hlt:i<a.k.length:=Int.ofNat_lt.1 hlt
  rw[BF (by omega)]
  simp only[Int.toNat_natCast]
  rw[ANV hlt,BLS] at hI
  refine⟨⟨by omega,by omega⟩,⟨by omega,by omega,Int.le_refl _⟩,⟨⟨i,0⟩,⟨rfl,rfl,rfl,rfl,λj hj=>Pp _ _ _,rfl,rfl⟩,rfl,hlt,Nat.zero_le _,hI⟩,λx ⟨x1,x2,x3,x4⟩=>⟨λhj=>?_,λhj=>?_⟩⟩
  ·have hj:x.j<a.k.length-(x.i+1):=Int.ofNat_lt.1 hj
   have hxi:x.i=i:=by omega
   have e:(IntKind.i64.wrap (IntKind.i64.wrap ((x.i:Int)+x.j)+2))=((x.i+x.j+2:Nat):Int):=by
    rw[HL (n:=(x.i:Int)+x.j) (by omega) (by omega),HL (by omega) (by omega)];omega
   rw[ANV (l:=a.k.drop (x.i+1)) (by rw[List.length_drop];omega),List.drop_drop,show x.i+1+(x.j+1)=x.i+x.j+2 by omega,BKR] at x4
   refine⟨⟨by omega,by omega⟩,⟨rfl,all2 _ _,⟨h1,by show 2<1073741824;omega⟩,h3⟩,λht=>?_,λht=>?_⟩
   ·rw[ht] at x4
    have ek:Vp a=[gD a.k x.i,gD (a.k.drop (x.i+1)) x.j]:=by unfold Vp;rw[x4];rfl
    rw[ek];exact⟨rfl,all2 _ _⟩
   ·rw[ht] at x4
    rw[e];simp only[Int.toNat_natCast]
    refine⟨⟨by omega,by omega,Int.le_refl _⟩,⟨⟨x.i,x.j,0⟩,⟨rfl,rfl,rfl,rfl,λ_ _=>rfl,rfl,rfl,rfl,rfl,λj hj=>Pp _ _ _,rfl,rfl⟩,x1,x2,rfl,hj,Nat.zero_le _,x4⟩,λy ⟨y1,y2,y3,y4,y5,y6⟩=>⟨λhk=>?_,λhk=>?_⟩⟩
    ·have hk:y.k<a.k.length-(y.i+y.j+2):=Int.ofNat_lt.1 hk
     rw[ANV (l:=a.k.drop (y.i+y.j+2)) (by rw[List.length_drop];omega),BHA] at y6
     refine⟨⟨by omega,by omega⟩,⟨rfl,all3 _ _ _,⟨h1,by show 3<1073741824;omega⟩,h3⟩,λht=>?_,λht=>?_⟩
     ·rw[ht] at y6
      have ek:Vp a=[gD a.k y.i,gD (a.k.drop (y.i+1)) y.j,gD (a.k.drop (y.i+y.j+2)) y.k]:=by unfold Vp;rw[y6];rfl
      rw[ek];exact⟨rfl,all3 _ _ _⟩
     ·rw[ht] at y6
      exact⟨⟨y.i,y.j,y.k+1⟩,⟨rfl,rfl,rfl,rfl,λ_ _=>rfl,rfl,rfl,rfl,rfl,λ_ _=>rfl,rfl,(BF (by omega)).symm⟩,⟨y1,y2,y3,y4,by show y.k+1<=a.k.length-(y.i+y.j+2);omega,y6⟩,by show a.k.length-(y.i+y.j+2)-(y.k+1)<_;omega⟩
    ·have hk:a.k.length-(y.i+y.j+2)<=y.k:=by omega
     rw[List.drop_of_length_le (l:=a.k.drop (y.i+y.j+2)) (by rw[List.length_drop];omega)] at y6
     refine⟨⟨y.i,y.j+1⟩,⟨rfl,rfl,rfl,rfl,λ_ _=>rfl,rfl,(BF (by omega)).symm⟩,⟨y1,y2,by show y.j+1<=a.k.length-(y.i+1);omega,?_⟩,by show a.k.length-(y.i+1)-(y.j+1)<_;omega⟩
     show _=orO (knt2 a.g (gD a.k y.i) ((a.k.drop (y.i+1)).drop (y.j+1))) _
     rw[List.drop_drop,show y.i+1+(y.j+1)=y.i+y.j+2 by omega];exact y6
  ·have hj:a.k.length-(x.i+1)<=x.j:=by omega
   rw[List.drop_of_length_le (l:=a.k.drop (x.i+1)) (by rw[List.length_drop];omega)] at x4
   exact⟨x.i+1,(BF (by omega)).symm,⟨by omega,x4⟩,by omega⟩
 ·rw[List.drop_of_length_le (by omega)] at hI
  have ek:Vp a=[]:=by unfold Vp;rw[hI];rfl
  rw[ek];rfl
theorem DBU:AH ZP 112 (C_kd.spec dGK):=PW C_kd A_kd [] [] Tryz.func112 (λ_=>by kernel_rfl) (λ_=>AA CUQ AD) (λ(a:GK) h=>by
 obtain⟨⟨h1,h2⟩,h3⟩:(a.g.length<1073741824/\a.k.length<1073741824)/\∀g∈a.g,IT g:=h
 exact p_kd a h1 h2 h3) (λ_=>RA rfl rfl) _
theorem CHL{a:GPk}(h:0<=a.a/\a.a<=a.b/\a.b<=a.o.length):(Vr a).length=a.b.toNat-a.a.toNat:=by
 unfold Vr;rw[List.length_drop,List.length_take];omega
theorem CUV{a:GPk}{i:Nat}(h:i<(Vr a).length):gD (Vr a) i=gD a.o (a.a.toNat+i):=by
 unfold Vr at *
 rw[Pp]
 rw[List.length_drop,List.length_take] at h
 simp[gD,List.getD_eq_getElem?_getD,List.getElem?_take,show a.a.toNat+i<a.b.toNat by omega]
theorem BPZ{a:GPk}{x:Int}(h:x∈Vr a):x∈a.o:=List.mem_of_mem_take (List.mem_of_mem_drop h)
theorem p_pk(a:GPk)(h:0<=a.a/\a.a<=a.b/\a.b<=a.o.length/\a.o.length<1073741824)(hx:∀x∈a.o,0<=x/\x<a.g.length):V_pk a:=by
 rw[DCI]<;> dsimp only[go_sem];simp only[CC,CU]
 have hl:=CHL ⟨h.1,h.2.1,h.2.2.1⟩
 have hk:∀{i:Nat},i<(Vr a).length->0<=gD (Vr a) i/\gD (Vr a) i<a.g.length:=λhi=>hx _ (BPZ (BU hi))
 have hm:∀i,(((Vr a).take i).map λi=>gD a.g i.toNat).length<=(Vr a).length:=λi=>by simp;omega
 refine⟨⟨h.1,h.2.1,h.2.2.1⟩,⟨default,hl,λi hi=>CUV hi,by rw[hl]⟩,⟨λhlt=>⟨⟨by omega,by omega⟩,⟨hk (by omega),by omega,by omega,by omega,by omega,by omega⟩,⟨1,[gD a.g (gD (Vr a) 0).toNat]⟩,⟨rfl,rfl,rfl,λi hi=>?_⟩,⟨by show 0<1;omega,by show 1<=_;omega,?_⟩,by show (Vr a).length-1<_;omega⟩,λhge=>?_⟩,λx ⟨x1,x2,x3⟩=>⟨λhlt=>⟨⟨by omega,by omega⟩,⟨hk (by omega),by omega,λh=>(by cases h),?_,?_⟩,⟨x.i+1,x.l ++ [gD a.g (gD (Vr a) x.i).toNat]⟩,⟨by simp,(BF (by omega)).symm,by simp,BOK _ _⟩,⟨by show 0<x.i+1;omega,by show x.i+1<=_;omega,?_⟩,by show (Vr a).length-(x.i+1)<_;omega⟩,λhge=>?_⟩⟩
 ·have hi:i<1:=hi
  rw[show i=0 by omega];exact⟨rfl,rfl,rfl⟩
 ·show [gD a.g (gD (Vr a) 0).toNat]=((Vr a).take 1).map _
  rw[LG (by omega:0<(Vr a).length)];rfl
 ·unfold pkM;rw[List.length_map];omega
 ·have:=hm x.i;rw[<-x3] at this;omega
 ·have:=hm x.i;rw[<-x3] at this;omega
 ·show x.l ++ _=((Vr a).take (x.i+1)).map _
  rw[LG (by omega:x.i<(Vr a).length),List.map_append,x3];rfl
 ·have:x.l=pkM a:=by rw[x3,List.take_of_length_le (by omega)];rfl
  rw[this];exact⟨rfl,Nat.le_refl _,λ_ _=>⟨rfl,rfl,rfl⟩⟩
theorem CYO:AH ZP 111 (C_pk.spec dGPk):=PW C_pk A_pk [] [201] Tryz.func111 (λ_=>by kernel_rfl) (λ_=>AD) (λ(a:GPk) h=>by
 obtain⟨h1,h2⟩:(0<=a.a/\a.a<=a.b/\a.b<=a.o.length/\a.o.length<1073741824)/\∀x∈a.o,0<=x/\x<a.g.length:=h
 exact p_pk a h1 h2) (λ_=>RA rfl rfl) _
theorem BMI{α:Type}[Inhabited α]{l m:List α}(h:l.length=m.length)(h2:∀i,i<l.length->gD l i=gD m i):l=m:=by
 apply List.ext_getElem h
 intro i h3 h4
 have:=h2 i h3
 simpa[gD,List.getD_eq_getElem?_getD,h3,h4] using this
theorem CZJ{l:List Int}{j:Nat}(h:j+1<l.length):l=l.take j ++ (gD l j :: gD l (j+1) :: l.drop (j+2))/\swL l j=l.take j ++ (gD l (j+1) :: gD l j :: l.drop (j+2)):=by
 have e:l.drop j=gD l j :: gD l (j+1) :: l.drop (j+2):=by
  rw[ANV (show j<l.length by omega),ANV (show j+1<l.length from h)]
 refine⟨by rw[<-e,List.take_append_drop],?_⟩
 apply BMI
 ·rw[AFY];simp;omega
 ·intro i hi
  rw[AFY] at hi
  rw[ACB h,jC]
  have hl:(l.take j).length=j:=by simp;omega
  by_cases h1:i<j
  ·rw[if_pos (by rw[hl];exact h1),decide_eq_false (show ¬i=j by omega),decide_eq_false (show ¬i=j+1 by omega)]
   simp[gD,List.getD_eq_getElem?_getD,List.getElem?_take,h1]
  ·rw[if_neg (by rw[hl];exact h1),hl]
   by_cases h2:i=j
   ·subst h2;simp;rfl
   ·by_cases h3:i=j+1
    ·subst h3;rw[decide_eq_false h2,decide_eq_true rfl,show j+1-j=1 by omega];rfl
    ·rw[decide_eq_false h2,decide_eq_false h3]
     obtain⟨m,rfl⟩:∃m,i=j+2+m:=⟨i-j-2,by omega⟩
     rw[show j+2+m-j=m+2 by omega]
     show gD l (j+2+m)=gD (l.drop (j+2)) m
     rw[Pp]
theorem CHE{l:List Int}{j:Nat}(h:j+1<l.length):(swL l j).Perm l:=by
 obtain⟨h1,h2⟩:=CZJ h
 rw[h2]
 conv=>rhs;rw[h1]
 exact List.Perm.append_left _ (List.Perm.swap _ _ _)
theorem AGY{key:Int->Int}:∀(j:Nat) (l:List Int),j<l.length->(Xi key j l).Perm l
 |0,l,_=>List.Perm.refl _
 |j+1,l,h=>by
  unfold Xi
  cases decide (Ib (key (gD l (j+1))) (key (gD l j))<0)
  ·exact List.Perm.refl _
  ·exact (AGY j _ (by rw[AFY];omega)).trans (CHE h)
theorem BFE{key:Int->Int}:∀(n i:Nat) (l:List Int),i+n<=l.length->(stR key n i l).Perm l
 |0,_,l,_=>List.Perm.refl _
 |n+1,i,l,h=>by
  unfold stR
  have hp:=AGY (key:=key) i l (by omega)
  exact (BFE n (i+1) _ (by rw[hp.length_eq];omega)).trans hp
theorem AAC(key:Int->Int)(l:List Int):(stM key l).Perm l:=by
 unfold stM
 by_cases h:l.length=0
 ·rw[h];exact List.Perm.refl _
 ·exact BFE _ _ _ (by omega)
def CXJ(key:Int->Int)(i j:Nat)(l:List Int):Prop:=(∀p q,p<q->q<=i->p≠j->q≠j->key (gD l p)<=key (gD l q))/\∀q,j<q->q<=i->key (gD l j)<=key (gD l q)
def upS(key:Int->Int)(i:Nat)(l:List Int):Prop:=∀p q,p<q->q<=i->key (gD l p)<=key (gD l q)
theorem AHO{key:Int->Int}{i:Nat}:∀(j:Nat) (l:List Int),j<=i->i<l.length->CXJ key i j l->upS key i (Xi key j l)
 |0,l,_,hl,h=>λp q h1 h2=>by
  show key (gD l p)<=key (gD l q)
  by_cases hp:p=0
  ·subst hp;exact h.2 q h1 h2
  ·exact h.1 p q h1 h2 hp (by omega)
 |j+1,l,hj,hl,h=>by
  unfold Xi
  by_cases hc:key (gD l (j+1))<key (gD l j)
  ·rw[decide_eq_true (R1.2 hc)]
   refine AHO j (swL l j) (by omega) (by rw[AFY];omega) ⟨λp q h1 h2 h3 h4=>?_,λq h1 h2=>?_⟩
   ·rw[ACB (by omega),ACB (by omega),decide_eq_false h3,decide_eq_false h4]
    by_cases hp:p=j+1
    ·subst hp
     rw[decide_eq_true rfl,decide_eq_false (show ¬q=j+1 by omega)]
     exact h.1 j q (by omega) h2 (by omega) (by omega)
    ·by_cases hq:q=j+1
     ·subst hq
      rw[decide_eq_true rfl,decide_eq_false hp]
      exact h.1 p j (by omega) (by omega) hp (by omega)
     ·rw[decide_eq_false hp,decide_eq_false hq]
      exact h.1 p q h1 h2 hp hq
   ·rw[ACB (by omega),ACB (by omega),decide_eq_true rfl,decide_eq_false (show ¬q=j by omega)]
    by_cases hq:q=j+1
    ·subst hq;rw[decide_eq_true rfl];exact Int.le_of_lt hc
    ·rw[decide_eq_false hq];exact h.2 q (by omega) h2
  ·rw[decide_eq_false (λhx=>hc (R1.1 hx))]
   intro p q h1 h2
   show key (gD l p)<=key (gD l q)
   by_cases hp:p=j+1
   ·subst hp;exact h.2 q h1 h2
   ·by_cases hq:q=j+1
    ·subst hq
     by_cases hpj:p=j
     ·subst hpj;omega
     ·have:=h.1 p j (by omega) (by omega) hp (by omega);omega
    ·exact h.1 p q h1 h2 hp hq
theorem AMK{key:Int->Int}:∀(n i:Nat) (l:List Int),1<=i->i+n=l.length->upS key (i-1) l->upS key (l.length-1) (stR key n i l)
 |0,i,l,h1,h2,h=>by
  rw[show l.length-1=i-1 by omega];exact h
 |n+1,i,l,h1,h2,h=>by
  unfold stR
  have hp:=AGY (key:=key) i l (by omega)
  have:=AMK (key:=key) n (i+1) (Xi key i l) (by omega) (by rw[hp.length_eq];omega) (AHO i l (Nat.le_refl _) (by omega) ⟨λp q a b c d=>h p q a (by omega),λq a b=>by omega⟩)
  rw[hp.length_eq] at this;exact this
theorem APN(key:Int->Int)(l:List Int):upS key (l.length-1) (stM key l):=by
 unfold stM
 by_cases h:l.length=0
 ·intro p q h1 h2;omega
 ·exact AMK _ 1 l (Nat.le_refl _) (by omega) (λp q a b=>by omega)
end Go.Bal
