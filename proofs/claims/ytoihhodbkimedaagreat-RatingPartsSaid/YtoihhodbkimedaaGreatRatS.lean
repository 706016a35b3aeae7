/- Package rating: what ties; gaugings that are picked. -/
import Derived.Test.YtoihhodbkimedaaGreatRatR
set_option linter.unusedVariables false
set_option linter.unusedSimpArgs false
namespace Go.Bal
open Go Go.Sym Go.Proofs
def QZ(a:GK):Bool:=bif (Gr a).2 then !(DC (Gr a).1).2 else false
def dKt:List AVal->Heap->Option (GK×List (Nat×Nat)×List Nat)
 |[x,.bptr id _],H=>match tT x H,H id with
  |some (m,e),.live (.box [.d (.list _ n h _)])=>some (⟨MK n λi=>Sr (h i),m⟩,[(100,id)],e)
  |_,_=>none
 |_,_=>none
def C_kt1:Ctr:={ ro:=[100],α:=GK,xs:=λa=>[.d (CZ a.k),.bptr 100 0],L:=λa=>[(100,bxG a.g)],val:=λa=>.bool (QZ a),keep:=λa=>[(100,.live (bxG a.g))],pre:=λa=>[(a.g.length<1073741824/\a.k.length<1073741824)/\∀g∈a.g,RK g] }
def CKT:Ann:={ ann 17 [(xO,C_named.spec dGK),(Wx,C_isKnot.spec dGsK)] with E:=[100] }
def CMO(a:GK):Prop:=BQ Try.prog CKT E3 (AI E3) (C_kt1.xs a) (AD (C_kt1.L a)) (C_kt1.val a) (C_kt1.keep a) [] []
abbrev qK:=QZ
attribute [go_sem] qK
theorem CPS(a:GK):(CMO a)=(QD (Do (CE (DO a)) (BB (DO a)) (IK a) (FN (DO a)) (HS (IK a))) (EX (Mv (gF a a)) (AN (CE (Qo a a)) (BB (Qo a a)) (FN (Qo a a)) (RZ (Qo a a)))) (WZ (qK a) (Mv (gF a a)) (Kt (Qo a a))) (AZ (DO a)) (DO a)):=by kernel_rfl
def knt3(g:List Gau)(a b:Int):List Int->Option (List Int)
 |[]=>none
 |c :: cs=>bif QZ ⟨g,[a,b,c]⟩ then some [a,b,c] else knt3 g a b cs
def orO(x y:Option (List Int)):Option (List Int):=match x with
 |some z=>some z
 |none=>y
def knt2(g:List Gau)(a:Int):List Int->Option (List Int)
 |[]=>none
 |b :: cs=>bif QZ ⟨g,[a,b]⟩ then some [a,b] else orO (knt3 g a b cs) (knt2 g a cs)
def iX(g:List Gau):List Int->Option (List Int)
 |[]=>none
 |a :: bs=>orO (knt2 g a bs) (iX g bs)
def Vz(a:GK):List Int:=(iX a.g a.k).getD []
structure IJK where
 i:Nat
 j:Nat
 k:Nat
 deriving Inhabited
structure IJ2 where
 i:Nat
 j:Nat
 deriving Inhabited
def kdS(a:GK)(i:Nat):List (Nat×AVal):=[(1,.d (CZ a.k)),(5,.fn (.func lZ) [] [.bptr 1000 0]),(13,.d (CZ a.k)),(14,.int a.k.length),(15,.int i)]
def kdT(a:GK)(i j:Nat):List (Nat×AVal):=kdS a i ++ [(6,.int i),(7,.int (gD a.k i)),(23,.d (CZ (a.k.drop (i+1)))),(24,.int (a.k.drop (i+1)).length),(25,.int j)]
def kdH(a:GK):List (Nat×HCell):=[(1000,.live (bxG a.g))]
def kd3(a:GK):Shape:={ α:=Nat,dflt:=0,T:=λi=>⟨kdS a i,kdH a⟩,inv:=λi=>i<=a.k.length/\iX a.g a.k=iX a.g (a.k.drop i),meas:=λi=>a.k.length-i }
def kd6(a:GK)(m:Nat):Shape:={ α:=IJ2,dflt:=default,T:=λx=>⟨kdT a x.i x.j,kdH a⟩,inv:=λx=>a.k.length-x.i=m/\x.i<a.k.length/\x.j<=(a.k.drop (x.i+1)).length/\iX a.g a.k=orO (knt2 a.g (gD a.k x.i) ((a.k.drop (x.i+1)).drop x.j)) (iX a.g (a.k.drop (x.i+1))),meas:=λx=>(a.k.drop (x.i+1)).length-x.j }
def kd11(a:GK)(m q:Nat):Shape:={ α:=IJK,dflt:=default,T:=λx=>⟨kdT a x.i x.j ++ [(9,.int (gD (a.k.drop (x.i+1)) x.j)),(43,.d (CZ (a.k.drop (x.i+x.j+2)))),(44,.int (a.k.drop (x.i+x.j+2)).length),(45,.int x.k)],kdH a⟩,inv:=λx=>a.k.length-x.i=m/\x.i<a.k.length/\(a.k.drop (x.i+1)).length-x.j=q/\x.j<(a.k.drop (x.i+1)).length/\x.k<=(a.k.drop (x.i+x.j+2)).length/\iX a.g a.k=orO (orO (knt3 a.g (gD a.k x.i) (gD (a.k.drop (x.i+1)) x.j) ((a.k.drop (x.i+x.j+2)).drop x.k)) (knt2 a.g (gD a.k x.i) (a.k.drop (x.i+x.j+2)))) (iX a.g (a.k.drop (x.i+1))),meas:=λx=>(a.k.drop (x.i+x.j+2)).length-x.k }
def C_kd:Ctr:={ α:=GK,xs:=xGK,L:=λ_=>[],val:=λa=>.d (CZ (Vz a)),keep:=λ_=>[],pre:=λa=>[(a.g.length<1073741824/\a.k.length<1073741824)/\∀g∈a.g,RK g] }
def A_kd(a:GK):Ann:={ ann 62 [(lZ,C_kt1.spec dKt)] with md:=λid=>if id=8 then some (λk=>if k=3 then 4 else 0) else if id=9 then some (λk=>if k=2 then 4 else 0) else if id=13 then some (λk=>if k=4 then 4 else 0) else if id=14 then some (λk=>if k=3 then 4 else 0) else none,loops:=λid=>if id=3 then some [kd3 a] else none,inner:=λgs id=>if id=6 then some [kd6 a (gs.getD 0 0)] else if id=11 then some [kd11 a (gs.getD 1 0) (gs.getD 0 0)] else none }
def V_kd(a:GK):Prop:=BQ Try.prog (A_kd a) AER (AI AER) (xGK a) (AD []) (C_kd.val a) [] [] []
abbrev Ro(a:GK):Prop:=a.k.length=a.k.length
abbrev Nu(a:GK):Prop:=∀(i:Nat),i<a.k.length->gD a.k i=gD a.k i
abbrev I5(a:GK):Prop:=(↑a.k.length:Int)=(↑a.k.length:Int)
abbrev S5(a:GK):Prop:=a.g.length=a.g.length/\∀(i:Nat),i<a.g.length->(gD a.g i).st=(gD a.g i).st/\(gD a.g i).lo=(gD a.g i).lo/\(gD a.g i).hi=(gD a.g i).hi
abbrev AZH(a:Nat)(a1:GK):Prop:=a<=a1.k.length/\iX a1.g a1.k=iX a1.g (List.drop a a1.k)
abbrev BJB(a:Nat)(a1:GK):Prop:=(↑a:Int)<(↑a1.k.length:Int)
abbrev BAA(a:Nat):Int:=IntKind.i64.wrap ((↑a:Int)+1)
abbrev BJO(a:GK):Prop:=(↑a.k.length:Int)<=(↑a.k.length:Int)
abbrev BJN(a:IJ2)(a1:Nat):Prop:=(↑a.i:Int)=(↑a1:Int)
abbrev AJB(a:IJ2)(a1:GK):List Int:=List.drop (a.i+1) a1.k
abbrev Mf(a:IJ2)(a1:GK):Nat:=(AJB a a1).length
abbrev AVT(a:Nat):Nat:=(BAA a).toNat
abbrev AWH(a:GK)(a1:Nat):Nat:=a.k.length-AVT a1
abbrev AWT(i:Nat)(a:IJ2)(a1:GK):Prop:=i<Mf a a1
abbrev ALQ(a:IJ2)(a1:GK)(i:Nat):Int:=gD (AJB a a1) i
abbrev ACX(a:GK)(a1:Nat):Nat:=a.k.length-a1
abbrev AKZ(a:GK)(a1:IJ2)(a2:Nat):Prop:=a.k.length-a1.i=ACX a a2/\a1.i<a.k.length/\a1.j<=Mf a1 a/\iX a.g a.k=orO (knt2 a.g (gD a.k a1.i) (List.drop a1.j (AJB a1 a))) (iX a.g
 (AJB a1 a))
abbrev BAJ(a:IJ2)(a1:GK):Prop:=(↑a.j:Int)<(↑(Mf a a1):Int)
abbrev BAZ(i:Nat):Bool:=decide (i=0)
abbrev BBC(a:IJ2)(a1:GK):Int:=gD (AJB a a1) a.j
abbrev AME(i:Nat)(a:GK)(a1:IJ2):Int:=bif BAZ i then gD a.k a1.i else BBC a1 a
abbrev ALX(a:GK)(a1:IJ2):List Int:=MK 2 λ(i:Nat)=>AME i a a1
abbrev ALF(a:GK)(a1:IJ2):Nat:=(ALX a a1).length
abbrev vJ(a:GK):List Gau:=MK a.g.length λ(i:Nat)=>gD a.g i
abbrev ACN(a:GK):Nat:=(vJ a).length
abbrev AXS(a:GK):Prop:=ACN a=a.g.length
abbrev AMC(a:GK)(i:Nat):Gau:=gD (vJ a) i
abbrev AXP(a:GK)(i:Nat):Int:=(AMC a i).st
abbrev AYV(a:GK)(i:Nat):Int:=(AMC a i).lo
abbrev AWA(a:GK)(i:Nat):Int:=(AMC a i).hi
abbrev AWR(a:GK):Prop:=∀(i:Nat),i<ACN a->AXP a i=(gD a.g i).st/\AYV a i=(gD a.g i).lo/\AWA a i=(gD a.g i).hi
abbrev AWD(a:GK):Prop:=a.g.length=ACN a
abbrev AXG(a:GK):Prop:=∀(i:Nat),i<a.g.length->(gD a.g i).st=AXP a i/\(gD a.g i).lo=AYV a i/\(gD a.g i).hi=AWA a i
abbrev AWW(a:GK):Prop:=ACN a<1073741824
abbrev BAE(a:GK):Prop:=∀(g:Gau),List.Mem g (vJ a)->0<=g.st/\g.st<=2000/\0<=g.lo/\g.lo<=g.hi/\g.hi<=200000
abbrev ALD(a:IJ2):Int:=IntKind.i64.wrap (IntKind.i64.wrap ((↑a.i:Int)+(↑a.j:Int))+2)
abbrev AWY(a:IJK)(a1:IJ2):Prop:=(↑a.i:Int)=(↑a1.i:Int)
abbrev ADD(a:IJK)(a1:GK):List Int:=List.drop (a.i+1) a1.k
abbrev Ho(a:IJK)(a1:GK):Nat:=(ADD a a1).length
abbrev AYI(i:Nat)(a:IJK)(a1:GK):Prop:=i<Ho a a1
abbrev ADE(a:IJK)(a1:GK)(i:Nat):Int:=gD (ADD a a1) i
abbrev vZ(a:IJK)(a1:GK):Int:=gD (ADD a a1) a.j
abbrev xB(a:IJK)(a1:GK):List Int:=List.drop (a.i+a.j+2) a1.k
abbrev Kw(a:IJK)(a1:GK):Nat:=(xB a a1).length
abbrev AYD(a:IJ2):Nat:=(ALD a).toNat
abbrev AXC(a:GK)(a1:IJ2):Nat:=a.k.length-AYD a1
abbrev AVJ(i:Nat)(a:IJK)(a1:GK):Prop:=i<Kw a a1
abbrev ALZ(a:IJK)(a1:GK)(i:Nat):Int:=gD (xB a a1) i
abbrev ALG(a:IJ2)(a1:GK):Nat:=Mf a a1-a.j
abbrev ALC(a:GK)(a1:IJK)(a2:Nat)(a3:IJ2):Prop:=a.k.length-a1.i=ACX a a2/\a1.i<a.k.length/\Ho a1 a-a1.j=ALG a3 a/\a1.j<Ho a1 a/\a1.k<=Kw a1 a/\iX a.g a.k =
 orO (orO (knt3 a.g (gD a.k a1.i) (vZ a1 a) (List.drop a1.k (xB a1 a))) (knt2 a.g (gD a.k a1.i) (xB a1 a))) (iX a.g (ADD a1 a))
abbrev AZB(a:IJK)(a1:GK):Prop:=(↑a.k:Int)<(↑(Kw a a1):Int)
abbrev AKW(i:Nat)(a:GK)(a1:IJK):Int:=bif BAZ i then gD a.k a1.i else bif decide (i-1=0) then vZ a1 a else gD (xB a1 a) a1.k
abbrev AMD(a:GK)(a1:IJK):List Int:=MK 3 λ(i:Nat)=>AKW i a a1
abbrev ALM(a:GK)(a1:IJK):Nat:=(AMD a a1).length
abbrev AXX(a:IJK)(a1:IJK):Prop:=(↑a.i:Int)=(↑a1.i:Int)
abbrev BAI(a:IJK)(a1:GK):Nat:=Kw a a1-a.k
abbrev AXB(a:IJ2)(a1:IJK):Prop:=(↑a.i:Int)=(↑a1.i:Int)
abbrev AXA(a:GK):Prop:=(Vz a).length=0
theorem CSO(a:GK):(V_kd a)=((∃(a_1:Nat),(Ro a/\Nu a/\Ro a/\Nu a/\I5 a/\(↑a_1:Int)=0/\S5 a)/\AZH a_1 a)/\∀(a_1:Nat),AZH a_1 a->bif decide (BJB a_1 a) then (0
 <= (↑a_1:Int)/\BJB a_1 a)/\(0<=BAA a_1/\BAA a_1<=(↑a.k.length:Int)/\BJO a)/\(∃(a_3:IJ2),(Ro a/\Nu a/\Ro a/\Nu a/\I5 a/\BJN a_3 a_1/\BJN a_3 a_1/\gD a.k a_3.i =
 gD a.k a_1/\Mf a_3 a=AWH a a_1/\(∀(i:Nat),AWT i a_3 a->ALQ a_3 a i=gD a.k (AVT a_1+i))/\(↑(Mf a_3 a):Int)=(↑(AWH a a_1):Int)/\(↑a_3.j:Int)=0/\S5 a)/\AKZ a
 a_3 a_1)/\∀(a_3:IJ2),AKZ a a_3 a_1->bif decide (BAJ a_3 a) then (0<=(↑a_3.j:Int)/\BAJ a_3 a)/\(ALF a a_3=2/\(∀(i:Nat),i<ALF a a_3->gD (ALX a a_3) i=AME i a a_3) /\
 AXS a/\AWR a/\AWD a/\AXG a/\(AWW a/\ALF a a_3<1073741824)/\BAE a)/\bif QZ (GK.mk (vJ a) (ALX a a_3)) then (Vz a).length=2/\∀(i:Nat),i<(Vz a).length->gD (Vz
 a) i=AME i a a_3 else (0<=ALD a_3/\ALD a_3<=(↑a.k.length:Int)/\BJO a)/\(∃(a_5:IJK),(Ro a/\Nu a/\Ro a/\Nu a/\I5 a/\AWY a_5 a_3/\AWY a_5 a_3/\gD a.k a_5.i=gD
 a.k a_3.i/\Ho a_5 a=Mf a_3 a/\(∀(i:Nat),AYI i a_5 a->ADE a_5 a i=ALQ a_3 a i)/\(↑(Ho a_5 a):Int)=(↑(Mf a_3 a):Int)/\(↑a_5.j:Int)=(↑a_3.j:Int)/\vZ a_5 a =
 BBC a_3 a/\Kw a_5 a=AXC a a_3/\(∀(i:Nat),AVJ i a_5 a->ALZ a_5 a i=gD a.k (AYD a_3+i))/\(↑(Kw a_5 a):Int)=(↑(AXC a a_3):Int)/\(↑a_5.k:Int)=0/\S5 a)/\ALC
 a a_5 a_1 a_3)/\∀(a_5:IJK),ALC a a_5 a_1 a_3->bif decide (AZB a_5 a) then (0<=(↑a_5.k:Int)/\AZB a_5 a)/\(ALM a a_5=3/\(∀(i:Nat),i<ALM a a_5->gD (AMD a a_5) i=AKW i a
 a_5)/\AXS a/\AWR a/\AWD a/\AXG a/\(AWW a/\ALM a a_5<1073741824)/\BAE a)/\bif QZ (GK.mk (vJ a) (AMD a a_5)) then (Vz a).length=3/\∀(i:Nat),i<(Vz a).length ->
 gD (Vz a) i=AKW i a a_5 else ∃(a_7:IJK),(Ro a/\Nu a/\Ro a/\Nu a/\I5 a/\AXX a_7 a_5/\AXX a_7 a_5/\gD a.k a_7.i=gD a.k a_5.i/\Ho a_7 a=Ho a_5 a/\(∀(i:Nat),
 AYI i a_7 a->ADE a_7 a i=ADE a_5 a i)/\(↑(Ho a_7 a):Int)=(↑(Ho a_5 a):Int)/\(↑a_7.j:Int)=(↑a_5.j:Int)/\vZ a_7 a=vZ a_5 a/\Kw a_7 a=Kw a_5 a/\(∀(i:Nat),
 AVJ i a_7 a->ALZ a_7 a i=ALZ a_5 a i)/\(↑(Kw a_7 a):Int)=(↑(Kw a_5 a):Int)/\(↑a_7.k:Int)=IntKind.i64.wrap ((↑a_5.k:Int)+1)/\S5 a)/\ALC a a_7 a_1 a_3/\BAI a_7 a <
 BAI a_5 a else ∃(a_7:IJ2),(Ro a/\Nu a/\Ro a/\Nu a/\I5 a/\AXB a_7 a_5/\AXB a_7 a_5/\gD a.k a_7.i=gD a.k a_5.i/\Mf a_7 a=Ho a_5 a/\(∀(i:Nat),AWT i a_7 a ->
 ALQ a_7 a i=ADE a_5 a i)/\(↑(Mf a_7 a):Int)=(↑(Ho a_5 a):Int)/\(↑a_7.j:Int)=IntKind.i64.wrap ((↑a_5.j:Int)+1)/\S5 a)/\AKZ a a_7 a_1/\ALG a_7 a<ALG a_3 a else ∃
 (a_5:Nat),(Ro a/\Nu a/\Ro a/\Nu a/\I5 a/\(↑a_5:Int)=IntKind.i64.wrap ((↑a_3.i:Int)+1)/\S5 a)/\AZH a_5 a/\ACX a a_5<ACX a a_1 else AXA a/\AXA a):=by
 kernel_rfl
structure GPk where
 g:List Gau
 o:List Int
 a:Int
 b:Int
def dGPk:List AVal->Heap->Option (GPk×List (Nat×Nat)×List Nat)
 |[.d x,.d y,.bptr c _,.bptr id _],H=>match H id,H c with
  | .live (.box [.d (.list _ n h _)]),.live (.box [.d (.list _ m r _)])=>some (⟨MK n λi=>Sr (h i),MK m λi=>KT (r i),KT x,KT y⟩,[(100,id),(101,c)],[])
  |_,_=>none
 |_,_=>none
def Km(a:GPk):List Int:=(a.o.take a.b.toNat).drop a.a.toNat
def pkM(a:GPk):List Gau:=(Km a).map λi=>gD a.g i.toNat
def pkH(a:GPk):List (Nat×HCell):=[(101,.live (.box [.d (CZ a.o)])),(100,.live (bxG a.g))]
def pk3n(a:GPk):Shape:={ α:=One,dflt:=default,T:=λ_=>⟨[(3,.bptr 100 0),(7,.d ZU),(13,.d (CZ (Km a))),(14,.int (Km a).length),(15,.int 0)],pkH a⟩,inv:=λ_=>True,meas:=λ_=>(Km a).length+1 }
def pk3o(a:GPk):Shape:={ α:=GsK,dflt:=default,T:=λx=>⟨[(3,.bptr 100 0),(7,.own 201 3 0 x.l.length),(13,.d (CZ (Km a))),(14,.int (Km a).length),(15,.int x.i)],pkH a ++ [(201,.live (rowG x.l))]⟩,inv:=λx=>1<=x.i/\x.i<=(Km a).length/\x.l=((Km a).take x.i).map λi=>gD a.g i.toNat,meas:=λx=>(Km a).length-x.i,again:=[(201,6096)] }
def C_pk:Ctr:={ ro:=[100,101],α:=GPk,xs:=λa=>[.int a.a,.int a.b,.bptr 101 0,.bptr 100 0],L:=λa=>[(101,.box [.d (CZ a.o)]),(100,bxG a.g)],val:=λa=>.d (BX (pkM a)),keep:=pkH,pre:=λa=>[(0<=a.a/\a.a<=a.b/\a.b<=a.o.length/\a.o.length<1073741824)/\∀x∈a.o,0<=x/\x<a.g.length] }
def A_pk(a:GPk):Ann:={ ann 28 [] with E:=[101,100],mt:=λid=>id==5,loops:=λid=>if id=3 then some [pk3n a,pk3o a] else none }
def V_pk(a:GPk):Prop:=BQ Try.prog (A_pk a) AEJ (AI AEJ) (C_pk.xs a) (AD (C_pk.L a)) (C_pk.val a) (C_pk.keep a) [] [201]
abbrev cR:=GPk.o
abbrev Ew:=GPk.g
abbrev Fi a b c:=AH a (Jn b c)
abbrev Lh a b c:=ON (CM a b) c
abbrev YB a b:=AR (CG a) b
attribute [go_sem] cR Ew Fi Lh YB
theorem CSY(a:GPk):(V_pk a)=(AN (AG (BC (GPk.a a)) (DD (GPk.a a) (GPk.b a)) (VT (GPk.b a) (cR a))) (Dg (JJ (AX DH (YB (Km a) (EF (EU (GPk.b a)) (EU (GPk.a a)))) (AK (λi=>GH i (Km a) (cR a) (LM (EU (GPk.a a)) i))) (CB (CG (Km a)) (EF (EU (GPk.b a)) (EU (GPk.a a)))) BY (CX (cR a)) (FC (cR a)) (AZ (Ew a)) (BN (Ew a))))) (XB (λi=>HP FP (Jf (EK (Km a))) (DE ML (TQ (CG (Km a))) (BJ (Lh (Km a) 0 (Ew a)) Iy Gh MP MU ZC) (gX (λj=>LN (LO (Lu j 1) (CX (Km a)) (FO (FC (Km a)) (QV (Km a)) (EA (CH j) 0) (CX (cR a)) (FC (cR a)) (AZ (Ew a)) (BN (Ew a)) (Lu j 1) (λk=>Nm k j (Cw (Gn j k) (Fi (Ew a) (Km a) HB) (HW j) k (Ew a) (Jn (Km a) HB))))) (AG (nY j) (JF (CH j) (Km a)) (Bc j (AAH (λk=>EZ (Ew a) (EU k)) (iL (CH j) (Km a))))) (CG (Km a)) (CH j) (Ht (Km a))))) (And (Ff (pkM a)) (QD (Ff (pkM a)) (CX (cR a)) (FC (cR a)) (AZ (Ew a)) (Ew a))))) (ACM (λi=>NJ (AG (nY i) (JF (CH i) (Km a)) (Bc i (AAH (λj=>EZ (Ew a) (EU j)) (iL (CH i) (Km a))))) (Yi (CH i) (Km a)) (IN (CH i) (Km a)) (BJ (Lh (Km a) (CH i) (Ew a)) (Le (HW i) (Nm 0 i VL)) Gh MD (OC (Xp i)) (OR (Tr i) 24)) (gX (λj=>EV (LO (Lu j (Tr i)) (CX (Km a)) (FO (FC (Km a)) (QV (Km a)) (BS (CH j) (CH i)) (CX (cR a)) (FC (cR a)) (AZ (Ew a)) (BN (Ew a)) (Lu j (Tr i)) (λk=>Nm k j (ZZ (Gn j k) (Rw k i (Gn i k) (Fi (Ew a) (Km a) (CH i))) (HW j) k (Rw k i (AP (HW i) k) (AP (Ew a) (Jn (Km a) (CH i)))) k (Rw k i (AS (HW i) k) (AS (Ew a) (Jn (Km a) (CH i)))))))) (AG (nY j) (JF (CH j) (Km a)) (Bc j (AAH (λk=>EZ (Ew a) (EU k)) (iL (CH j) (Km a))))) (CG (Km a)) (CH j) (CH i))) (IQ (pkM a) (HW i) (FX (BP (Xp i)) (HW i)) (QD (AK (λj=>BR j (pkM a) (Cw (AH (pkM a) j) (Gn i (BP j)) (pkM a) j (HW i) (BP j)))) (CX (cR a)) (FC (cR a)) (AZ (Ew a)) (Ew a)))))):=by kernel_rfl
theorem CNW:AJ Try.prog lZ (C_kt1.spec dKt):=VD C_kt1 (λ_=>CKT) [] [] BCQ (λ_=>by kernel_rfl) (λ_=>AC ABB (AC iS AE)) (λ(a:GK) h=>by
 show CMO a;rw[CPS]<;> delta JT qD XL EE EC DP JG AO AR CG AK BV BZ CM DD NK CI EZ LZ VY AAK IK DO cS Mv qK AG GT JO GV IE AF AT AH CA CF BH AM CT GQ AP BR AS AW DF DX CR BC HH HL IC AN AZ EP GI AY HU EL GC II JA HG CU GU EX HY FU EM GH IH GF FE BJ BM EW FM FK SL MI Ac cG CE IA ZX SD NQ BB FA HZ HS FN pL tV RO RZ gL gF Kt QD WZ Qo sX Do;simp only[CC,eq_self,implies_true,forall_const]
 obtain⟨⟨h1,h2⟩,h3⟩:(a.g.length<1073741824/\a.k.length<1073741824)/\∀g∈a.g,RK g:=h
 exact⟨⟨h1,h2⟩,λ_=>BID h3 h1,rfl⟩) (λ_=>WK rfl rfl) _
theorem BFU{l:List Int}{i:Nat}(h:i<l.length):l.drop i=gD l i :: l.drop (i+1):=by
 rw[List.drop_eq_getElem_cons h];simp[gD,List.getD_eq_getElem?_getD,h]
theorem Wb(l:List Int)(i j:Nat):gD (l.drop i) j=gD l (i+j):=by
 simp[gD,List.getD_eq_getElem?_getD]
theorem rng2(a b:Int):(MK 2 λi=>bif decide (i=0) then a else b)=[a,b]:=rfl
theorem rng3(a b c:Int):(MK 3 λi=>bif decide (i=0) then a else bif decide (i-1=0) then b else c)=[a,b,c]:=rfl
theorem all2(a b:Int):∀i,i<2->gD [a,b] i=bif decide (i=0) then a else b:=λi hi=>by
 match i,hi with
 |0,_=>rfl
 |1,_=>rfl
theorem all3(a b c:Int):∀i,i<3->gD [a,b,c] i=bif decide (i=0) then a else bif decide (i-1=0) then b else c:=λi hi=>by
 match i,hi with
 |0,_=>rfl
 |1,_=>rfl
 |2,_=>rfl
theorem BFX(g:List Gau)(a:Int)(bs:List Int):iX g (a :: bs)=orO (knt2 g a bs) (iX g bs):=rfl
theorem BFM(g:List Gau)(a b:Int)(cs:List Int):knt2 g a (b :: cs)=bif QZ ⟨g,[a,b]⟩ then some [a,b] else orO (knt3 g a b cs) (knt2 g a cs):=rfl
theorem BJW(g:List Gau)(a b c:Int)(cs:List Int):knt3 g a b (c :: cs)=bif QZ ⟨g,[a,b,c]⟩ then some [a,b,c] else knt3 g a b cs:=rfl
theorem p_kd(a:GK)(h1:a.g.length<1073741824)(h2:a.k.length<1073741824)(h3:∀g∈a.g,RK g):V_kd a:=by
 rw[CSO];delta Ro Nu I5 S5 AZH BJB BAA BJO BJN AJB Mf AVT AWH AWT ALQ ACX AKZ BAJ BAZ BBC AME ALX ALF vJ ACN AXS AMC AXP AYV AWA AWR AWD AXG AWW BAE ALD AWY ADD Ho AYI ADE vZ xB Kw AYD AXC AVJ ALZ ALG ALC AZB AKW AMD ALM AXX BAI AXB AXA;simp only[CC,eq_self,implies_true,forall_const,List.length_drop,rng2,rng3]
 refine⟨⟨0,rfl,Nat.zero_le _,rfl⟩,λi ⟨hi,hI⟩=>⟨λhlt=>?_,λhge=>?_⟩⟩
 ·have hlt:i<a.k.length:=Int.ofNat_lt.1 hlt
  rw[CN (by omega)]
  simp only[Int.toNat_natCast]
  rw[BFU hlt,BFX] at hI
  refine⟨⟨by omega,by omega⟩,⟨by omega,by omega,Int.le_refl _⟩,⟨⟨i,0⟩,⟨rfl,rfl,rfl,rfl,λj hj=>Wb _ _ _,rfl,rfl⟩,rfl,hlt,Nat.zero_le _,hI⟩,λx ⟨x1,x2,x3,x4⟩=>⟨λhj=>?_,λhj=>?_⟩⟩
  ·have hj:x.j<a.k.length-(x.i+1):=Int.ofNat_lt.1 hj
   have hxi:x.i=i:=by omega
   have e:(IntKind.i64.wrap (IntKind.i64.wrap ((x.i:Int)+x.j)+2))=((x.i+x.j+2:Nat):Int):=by
    rw[JH (n:=(x.i:Int)+x.j) (by omega) (by omega),JH (by omega) (by omega)];omega
   rw[BFU (l:=a.k.drop (x.i+1)) (by rw[List.length_drop];omega),List.drop_drop,show x.i+1+(x.j+1)=x.i+x.j+2 by omega,BFM] at x4
   refine⟨⟨by omega,by omega⟩,⟨rfl,all2 _ _,⟨h1,by show 2<1073741824;omega⟩,h3⟩,λht=>?_,λht=>?_⟩
   ·rw[ht] at x4
    have ek:Vz a=[gD a.k x.i,gD (a.k.drop (x.i+1)) x.j]:=by unfold Vz;rw[x4];rfl
    rw[ek];exact⟨rfl,all2 _ _⟩
   ·rw[ht] at x4
    rw[e];simp only[Int.toNat_natCast]
    refine⟨⟨by omega,by omega,Int.le_refl _⟩,⟨⟨x.i,x.j,0⟩,⟨rfl,rfl,rfl,rfl,λ_ _=>rfl,rfl,rfl,rfl,rfl,λj hj=>Wb _ _ _,rfl,rfl⟩,x1,x2,rfl,hj,Nat.zero_le _,x4⟩,λy ⟨y1,y2,y3,y4,y5,y6⟩=>⟨λhk=>?_,λhk=>?_⟩⟩
    ·have hk:y.k<a.k.length-(y.i+y.j+2):=Int.ofNat_lt.1 hk
     rw[BFU (l:=a.k.drop (y.i+y.j+2)) (by rw[List.length_drop];omega),BJW] at y6
     refine⟨⟨by omega,by omega⟩,⟨rfl,all3 _ _ _,⟨h1,by show 3<1073741824;omega⟩,h3⟩,λht=>?_,λht=>?_⟩
     ·rw[ht] at y6
      have ek:Vz a=[gD a.k y.i,gD (a.k.drop (y.i+1)) y.j,gD (a.k.drop (y.i+y.j+2)) y.k]:=by unfold Vz;rw[y6];rfl
      rw[ek];exact⟨rfl,all3 _ _ _⟩
     ·rw[ht] at y6
      exact⟨⟨y.i,y.j,y.k+1⟩,⟨rfl,rfl,rfl,rfl,λ_ _=>rfl,rfl,rfl,rfl,rfl,λ_ _=>rfl,rfl,(CN (by omega)).symm⟩,⟨y1,y2,y3,y4,by show y.k+1<=a.k.length-(y.i+y.j+2);omega,y6⟩,by show a.k.length-(y.i+y.j+2)-(y.k+1)<_;omega⟩
    ·have hk:a.k.length-(y.i+y.j+2)<=y.k:=by omega
     rw[List.drop_of_length_le (l:=a.k.drop (y.i+y.j+2)) (by rw[List.length_drop];omega)] at y6
     refine⟨⟨y.i,y.j+1⟩,⟨rfl,rfl,rfl,rfl,λ_ _=>rfl,rfl,(CN (by omega)).symm⟩,⟨y1,y2,by show y.j+1<=a.k.length-(y.i+1);omega,?_⟩,by show a.k.length-(y.i+1)-(y.j+1)<_;omega⟩
     show _=orO (knt2 a.g (gD a.k y.i) ((a.k.drop (y.i+1)).drop (y.j+1))) _
     rw[List.drop_drop,show y.i+1+(y.j+1)=y.i+y.j+2 by omega];exact y6
  ·have hj:a.k.length-(x.i+1)<=x.j:=by omega
   rw[List.drop_of_length_le (l:=a.k.drop (x.i+1)) (by rw[List.length_drop];omega)] at x4
   exact⟨x.i+1,(CN (by omega)).symm,⟨by omega,x4⟩,by omega⟩
 ·rw[List.drop_of_length_le (by omega)] at hI
  have ek:Vz a=[]:=by unfold Vz;rw[hI];rfl
  rw[ek];rfl
theorem CSZ:AJ Try.prog ADQ (C_kd.spec dGK):=VD C_kd A_kd [] [] BJE (λ_=>by kernel_rfl) (λ_=>AC CNW AE) (λ(a:GK) h=>by
 obtain⟨⟨h1,h2⟩,h3⟩:(a.g.length<1073741824/\a.k.length<1073741824)/\∀g∈a.g,RK g:=h
 exact p_kd a h1 h2 h3) (λ_=>WK rfl rfl) _
theorem CEB{a:GPk}(h:0<=a.a/\a.a<=a.b/\a.b<=a.o.length):(Km a).length=a.b.toNat-a.a.toNat:=by
 unfold Km;rw[List.length_drop,List.length_take];omega
theorem CNR{a:GPk}{i:Nat}(h:i<(Km a).length):gD (Km a) i=gD a.o (a.a.toNat+i):=by
 unfold Km at *
 rw[Wb]
 rw[List.length_drop,List.length_take] at h
 simp[gD,List.getD_eq_getElem?_getD,List.getElem?_take,show a.a.toNat+i<a.b.toNat by omega]
theorem BKZ{a:GPk}{x:Int}(h:x∈Km a):x∈a.o:=List.mem_of_mem_take (List.mem_of_mem_drop h)
theorem p_pk(a:GPk)(h:0<=a.a/\a.a<=a.b/\a.b<=a.o.length/\a.o.length<1073741824)(hx:∀x∈a.o,0<=x/\x<a.g.length):V_pk a:=by
 rw[CSY]<;> delta JT XL EE EC DP GD JG CS AO AR CG AK BV BZ CM AQ BU iL DD ES LX EF UM CI EZ FP EU LM Vu XB Jv Mz AKR gX HW CH ACM AAH cR Ew AG DG AF AT AH FF Jn CA CF AM BL GQ JM Ky AP BR AS AW DF DX EO DU CR AX BP BC HH CQ HL AN AL AZ EP GI BE ED BW EL FX GC HI CX JD JA HG EK CU EA Hb EX RH DV ZZ EM GH PG GF CB BJ BN FC FD LN MW ON HB Ks LL KJ EV DH BS JF JQ BY NB Cz Ht HP FO Db RN DE OA VO QV ZG JJ MC ML OR IQ IN UP QA TQ YS Xp MD LO Yi MU Bc VL OC MP VT NJ QD Gn YB Fi Ak Gh Lu ZC Lh Tr Ff Nm Iy Dg Ry Cw Rw nY Le Jf;simp only[CC,eq_self,implies_true,forall_const]
 have hl:=CEB ⟨h.1,h.2.1,h.2.2.1⟩
 have hk:∀{i:Nat},i<(Km a).length->0<=gD (Km a) i/\gD (Km a) i<a.g.length:=λhi=>hx _ (BKZ (CV hi))
 have hm:∀i,(((Km a).take i).map λi=>gD a.g i.toNat).length<=(Km a).length:=λi=>by simp;omega
 refine⟨⟨h.1,h.2.1,h.2.2.1⟩,⟨default,hl,λi hi=>CNR hi,by rw[hl]⟩,⟨λhlt=>⟨⟨by omega,by omega⟩,⟨hk (by omega),by omega,by omega,by omega,by omega,by omega⟩,⟨1,[gD a.g (gD (Km a) 0).toNat]⟩,⟨rfl,rfl,rfl,λi hi=>?_⟩,⟨by show 0<1;omega,by show 1<=_;omega,?_⟩,by show (Km a).length-1<_;omega⟩,λhge=>?_⟩,λx ⟨x1,x2,x3⟩=>⟨λhlt=>⟨⟨by omega,by omega⟩,⟨hk (by omega),by omega,λh=>(by cases h),?_,?_⟩,⟨x.i+1,x.l ++ [gD a.g (gD (Km a) x.i).toNat]⟩,⟨by simp,(CN (by omega)).symm,by simp,BNC _ _⟩,⟨by show 0<x.i+1;omega,by show x.i+1<=_;omega,?_⟩,by show (Km a).length-(x.i+1)<_;omega⟩,λhge=>?_⟩⟩
 ·have hi:i<1:=hi
  rw[show i=0 by omega];exact⟨rfl,rfl,rfl⟩
 ·show [gD a.g (gD (Km a) 0).toNat]=((Km a).take 1).map _
  rw[ND (by omega:0<(Km a).length)];rfl
 ·unfold pkM;rw[List.length_map];omega
 ·have:=hm x.i;rw[<-x3] at this;omega
 ·have:=hm x.i;rw[<-x3] at this;omega
 ·show x.l ++ _=((Km a).take (x.i+1)).map _
  rw[ND (by omega:x.i<(Km a).length),List.map_append,x3];rfl
 ·have:x.l=pkM a:=by rw[x3,List.take_of_length_le (by omega)];rfl
  rw[this];exact⟨rfl,Nat.le_refl _,λ_ _=>⟨rfl,rfl,rfl⟩⟩
theorem CTU:AJ Try.prog ADJ (C_pk.spec dGPk):=VD C_pk A_pk [] [201] BJI (λ_=>by kernel_rfl) (λ_=>AE) (λ(a:GPk) h=>by
 obtain⟨h1,h2⟩:(0<=a.a/\a.a<=a.b/\a.b<=a.o.length/\a.o.length<1073741824)/\∀x∈a.o,0<=x/\x<a.g.length:=h
 exact p_pk a h1 h2) (λ_=>WK rfl rfl) _
end Go.Bal

namespace Go.Bal
open Go Go.Sym Go.Proofs
theorem CBF{α:Type}[Inhabited α]{l m:List α}(h:l.length=m.length)(h2:∀i,i<l.length->gD l i=gD m i):l=m:=dP h h2
theorem BWG{a b:Int}:Oz a b<0↔a<b:=Tb
def upS(key:Int->Int)(i:Nat)(l:List Int):Prop:=∀p q,p<q->q<=i->key (gD l p)<=key (gD l q)
theorem ARA(key:Int->Int)(l:List Int):upS key (l.length-1) (yG key l):=λp q h1 h2=>
 sY (AYG key l p q (Nat.zero_le _) h1 (by rw[(UY key l).length_eq];omega))
end Go.Bal
