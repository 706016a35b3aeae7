/- Package rating: what ties; gaugings that are picked. -/
import Derived.Test.YtceloknnpdonhaaGreatRatR
set_option linter.unusedVariables false
set_option linter.unusedSimpArgs false
namespace Go.Bal
open Go Go.Sym Go.Proofs
def BLI(a:GK):Bool:=bif (nmM a).2 then !(GZ (nmM a).1).2 else false
def dKt:List AVal->Heap->Option (GK×List (Nat×Nat)×List Nat)
 |[x,.bptr id _],H=>match W2 x H,H id with
  |some (m,e),.live (.box [.d (.list _ n h _)])=>some (⟨KA n λi=>qG (h i),m⟩,[(100,id)],e)
  |_,_=>none
 |_,_=>none
def C_kt1:Ctr:={ ro:=[100],α:=GK,xs:=λa=>[.d (FE a.k),.bptr 100 0],L:=λa=>[(100,bxG a.g)],val:=λa=>.bool (BLI a),keep:=λa=>[(100,.live (bxG a.g))],pre:=λa=>[(a.g.length<1073741824/\a.k.length<1073741824)/\∀g∈a.g,Oy g] }
def DOC:Ann:={ ann 17 [(BNE,C_named.spec dGK),(AIF,C_isKnot.spec dGsK)] with E:=[100] }
def DNF(a:GK):Prop:=BG Try.prog DOC AWA (AL AWA) (C_kt1.xs a) (AF (C_kt1.L a)) (C_kt1.val a) (C_kt1.keep a) [] []
theorem DQE(a:GK):(DNF a)=(AJ (BB (CY (SF a)) (DD (SF a)) (AW (Qp a) (NW a)) (AS (Qp a) (NW a)) (Hs (SF a)) (Hb (Qp a))) (GC (BDC (nmM (BBA a a))) (AY (CY (cL a a)) (DD (cL a a)) (Hs (cL a a)) (Vk (cL a a)))) (TU (BLI a) (BDC (nmM (BBA a a))) (not (zS (pA (cL a a))))) (BY (SF a)) (BR (SF a))):=by kernel_rfl
def knt3(g:List Gau)(a b:Int):List Int->Option (List Int)
 |[]=>none
 |c :: cs=>bif BLI ⟨g,[a,b,c]⟩ then some [a,b,c] else knt3 g a b cs
def orO(x y:Option (List Int)):Option (List Int):=match x with
 |some z=>some z
 |none=>y
def knt2(g:List Gau)(a:Int):List Int->Option (List Int)
 |[]=>none
 |b :: cs=>bif BLI ⟨g,[a,b]⟩ then some [a,b] else orO (knt3 g a b cs) (knt2 g a cs)
def knt1(g:List Gau):List Int->Option (List Int)
 |[]=>none
 |a :: bs=>orO (knt2 g a bs) (knt1 g bs)
def jU(a:GK):List Int:=(knt1 a.g a.k).getD []
structure IJK where
 i:Nat
 j:Nat
 k:Nat
 deriving Inhabited
structure IJ2 where
 i:Nat
 j:Nat
 deriving Inhabited
def kdS(a:GK)(i:Nat):List (Nat×AVal):=[(1,.d (FE a.k)),(5,.fn (.func V1) [] [.bptr 1000 0]),(13,.d (FE a.k)),(14,.int a.k.length),(15,.int i)]
def kdT(a:GK)(i j:Nat):List (Nat×AVal):=kdS a i ++ [(6,.int i),(7,.int (gD a.k i)),(23,.d (FE (a.k.drop (i+1)))),(24,.int (a.k.drop (i+1)).length),(25,.int j)]
def kdH(a:GK):List (Nat×HCell):=[(1000,.live (bxG a.g))]
def kd3(a:GK):Shape:={ α:=Nat,dflt:=0,T:=λi=>⟨kdS a i,kdH a⟩,inv:=λi=>i<=a.k.length/\knt1 a.g a.k=knt1 a.g (a.k.drop i),meas:=λi=>a.k.length-i }
def kd6(a:GK)(m:Nat):Shape:={ α:=IJ2,dflt:=default,T:=λx=>⟨kdT a x.i x.j,kdH a⟩,inv:=λx=>a.k.length-x.i=m/\x.i<a.k.length/\x.j<=(a.k.drop (x.i+1)).length/\knt1 a.g a.k=orO (knt2 a.g (gD a.k x.i) ((a.k.drop (x.i+1)).drop x.j)) (knt1 a.g (a.k.drop (x.i+1))),meas:=λx=>(a.k.drop (x.i+1)).length-x.j }
def kd11(a:GK)(m q:Nat):Shape:={ α:=IJK,dflt:=default,T:=λx=>⟨kdT a x.i x.j ++ [(9,.int (gD (a.k.drop (x.i+1)) x.j)),(43,.d (FE (a.k.drop (x.i+x.j+2)))),(44,.int (a.k.drop (x.i+x.j+2)).length),(45,.int x.k)],kdH a⟩,inv:=λx=>a.k.length-x.i=m/\x.i<a.k.length/\(a.k.drop (x.i+1)).length-x.j=q/\x.j<(a.k.drop (x.i+1)).length/\x.k<=(a.k.drop (x.i+x.j+2)).length/\knt1 a.g a.k=orO (orO (knt3 a.g (gD a.k x.i) (gD (a.k.drop (x.i+1)) x.j) ((a.k.drop (x.i+x.j+2)).drop x.k)) (knt2 a.g (gD a.k x.i) (a.k.drop (x.i+x.j+2)))) (knt1 a.g (a.k.drop (x.i+1))),meas:=λx=>(a.k.drop (x.i+x.j+2)).length-x.k }
def C_kd:Ctr:={ α:=GK,xs:=xGK,L:=λ_=>[],val:=λa=>.d (FE (jU a)),keep:=λ_=>[],pre:=λa=>[(a.g.length<1073741824/\a.k.length<1073741824)/\∀g∈a.g,Oy g] }
def A_kd(a:GK):Ann:={ ann 62 [(V1,C_kt1.spec dKt)] with md:=λid=>if id=8 then some (λk=>if k=3 then 4 else 0) else if id=9 then some (λk=>if k=2 then 4 else 0) else if id=13 then some (λk=>if k=4 then 4 else 0) else if id=14 then some (λk=>if k=3 then 4 else 0) else none,loops:=λid=>if id=3 then some [kd3 a] else none,inner:=λgs id=>if id=6 then some [kd6 a (gs.getD 0 0)] else if id=11 then some [kd11 a (gs.getD 1 0) (gs.getD 0 0)] else none }
def V_kd(a:GK):Prop:=BG Try.prog (A_kd a) BGW (AL BGW) (xGK a) (AF []) (C_kd.val a) [] [] []
abbrev cT(a:GK):Prop:=a.k.length=a.k.length
abbrev aJ(a:GK):Prop:=∀(i:Nat),i<a.k.length->gD a.k i=gD a.k i
abbrev AZX(a:GK):Prop:=(↑a.k.length:Int)=(↑a.k.length:Int)
abbrev AQT(a:GK):Prop:=a.g.length=a.g.length/\∀(i:Nat),i<a.g.length->(gD a.g i).st=(gD a.g i).st/\(gD a.g i).lo=(gD a.g i).lo/\(gD a.g i).hi=(gD a.g i).hi
abbrev BZM(a:Nat)(a1:GK):Prop:=a<=a1.k.length/\knt1 a1.g a1.k=knt1 a1.g (List.drop a a1.k)
abbrev CKH(a:Nat)(a1:GK):Prop:=(↑a:Int)<(↑a1.k.length:Int)
abbrev BYT(a:Nat):Int:=IntKind.i64.wrap ((↑a:Int)+1)
abbrev CJI(a:GK):Prop:=(↑a.k.length:Int)<=(↑a.k.length:Int)
abbrev CJG(a:IJ2)(a1:Nat):Prop:=(↑a.i:Int)=(↑a1:Int)
abbrev BET(a:IJ2)(a1:GK):List Int:=List.drop (a.i+1) a1.k
abbrev Uw(a:IJ2)(a1:GK):Nat:=(BET a a1).length
abbrev CCS(a:Nat):Nat:=(BYT a).toNat
abbrev BZV(a:GK)(a1:Nat):Nat:=a.k.length-CCS a1
abbrev CAE(i:Nat)(a:IJ2)(a1:GK):Prop:=i<Uw a a1
abbrev BNJ(a:IJ2)(a1:GK)(i:Nat):Int:=gD (BET a a1) i
abbrev BDM(a:GK)(a1:Nat):Nat:=a.k.length-a1
abbrev BNR(a:GK)(a1:IJ2)(a2:Nat):Prop:=a.k.length-a1.i=BDM a a2/\a1.i<a.k.length/\a1.j<=Uw a1 a/\knt1 a.g a.k=orO (knt2 a.g (gD a.k a1.i) (List.drop a1.j (BET a1 a))) (knt1 a.g
 (BET a1 a))
abbrev CBS(a:IJ2)(a1:GK):Prop:=(↑a.j:Int)<(↑(Uw a a1):Int)
abbrev BYC(i:Nat):Bool:=decide (i=0)
abbrev CDF(a:IJ2)(a1:GK):Int:=gD (BET a a1) a.j
abbrev BNU(i:Nat)(a:GK)(a1:IJ2):Int:=bif BYC i then gD a.k a1.i else CDF a1 a
abbrev BNH(a:GK)(a1:IJ2):List Int:=KA 2 λ(i:Nat)=>BNU i a a1
abbrev BMS(a:GK)(a1:IJ2):Nat:=(BNH a a1).length
abbrev AMC(a:GK):List Gau:=KA a.g.length λ(i:Nat)=>gD a.g i
abbrev BDW(a:GK):Nat:=(AMC a).length
abbrev BXV(a:GK):Prop:=BDW a=a.g.length
abbrev BNG(a:GK)(i:Nat):Gau:=gD (AMC a) i
abbrev BYY(a:GK)(i:Nat):Int:=(BNG a i).st
abbrev CBE(a:GK)(i:Nat):Int:=(BNG a i).lo
abbrev CBT(a:GK)(i:Nat):Int:=(BNG a i).hi
abbrev CBX(a:GK):Prop:=∀(i:Nat),i<BDW a->BYY a i=(gD a.g i).st/\CBE a i=(gD a.g i).lo/\CBT a i=(gD a.g i).hi
abbrev CBD(a:GK):Prop:=a.g.length=BDW a
abbrev CDD(a:GK):Prop:=∀(i:Nat),i<a.g.length->(gD a.g i).st=BYY a i/\(gD a.g i).lo=CBE a i/\(gD a.g i).hi=CBT a i
abbrev CCO(a:GK):Prop:=BDW a<1073741824
abbrev BYZ(a:GK):Prop:=∀(g:Gau),List.Mem g (AMC a)->0<=g.st/\g.st<=2000/\0<=g.lo/\g.lo<=g.hi/\g.hi<=200000
abbrev BMN(a:IJ2):Int:=IntKind.i64.wrap (IntKind.i64.wrap ((↑a.i:Int)+(↑a.j:Int))+2)
abbrev CDB(a:IJK)(a1:IJ2):Prop:=(↑a.i:Int)=(↑a1.i:Int)
abbrev BCK(a:IJK)(a1:GK):List Int:=List.drop (a.i+1) a1.k
abbrev Pu(a:IJK)(a1:GK):Nat:=(BCK a a1).length
abbrev BZT(i:Nat)(a:IJK)(a1:GK):Prop:=i<Pu a a1
abbrev BCW(a:IJK)(a1:GK)(i:Nat):Int:=gD (BCK a a1) i
abbrev ANS(a:IJK)(a1:GK):Int:=gD (BCK a a1) a.j
abbrev AMT(a:IJK)(a1:GK):List Int:=List.drop (a.i+a.j+2) a1.k
abbrev Wn(a:IJK)(a1:GK):Nat:=(AMT a a1).length
abbrev CBP(a:IJ2):Nat:=(BMN a).toNat
abbrev BZK(a:GK)(a1:IJ2):Nat:=a.k.length-CBP a1
abbrev CBB(i:Nat)(a:IJK)(a1:GK):Prop:=i<Wn a a1
abbrev BMY(a:IJK)(a1:GK)(i:Nat):Int:=gD (AMT a a1) i
abbrev BNZ(a:IJ2)(a1:GK):Nat:=Uw a a1-a.j
abbrev BNY(a:GK)(a1:IJK)(a2:Nat)(a3:IJ2):Prop:=a.k.length-a1.i=BDM a a2/\a1.i<a.k.length/\Pu a1 a-a1.j=BNZ a3 a/\a1.j<Pu a1 a/\a1.k<=Wn a1 a/\knt1 a.g a.k =
 orO (orO (knt3 a.g (gD a.k a1.i) (ANS a1 a) (List.drop a1.k (AMT a1 a))) (knt2 a.g (gD a.k a1.i) (AMT a1 a))) (knt1 a.g (BCK a1 a))
abbrev BYJ(a:IJK)(a1:GK):Prop:=(↑a.k:Int)<(↑(Wn a a1):Int)
abbrev BNI(i:Nat)(a:GK)(a1:IJK):Int:=bif BYC i then gD a.k a1.i else bif decide (i-1=0) then ANS a1 a else gD (AMT a1 a) a1.k
abbrev BNA(a:GK)(a1:IJK):List Int:=KA 3 λ(i:Nat)=>BNI i a a1
abbrev BMM(a:GK)(a1:IJK):Nat:=(BNA a a1).length
abbrev CDA(a:IJK)(a1:IJK):Prop:=(↑a.i:Int)=(↑a1.i:Int)
abbrev BYN(a:IJK)(a1:GK):Nat:=Wn a a1-a.k
abbrev BYX(a:IJ2)(a1:IJK):Prop:=(↑a.i:Int)=(↑a1.i:Int)
abbrev CAQ(a:GK):Prop:=(jU a).length=0
theorem DWR(a:GK):(V_kd a)=((∃(a_1:Nat),(cT a/\aJ a/\cT a/\aJ a/\AZX a/\(↑a_1:Int)=0/\AQT a)/\BZM a_1 a)/\∀(a_1:Nat),BZM a_1 a->bif decide (CKH a_1 a) then (0
 <= (↑a_1:Int)/\CKH a_1 a)/\(0<=BYT a_1/\BYT a_1<=(↑a.k.length:Int)/\CJI a)/\(∃(a_3:IJ2),(cT a/\aJ a/\cT a/\aJ a/\AZX a/\CJG a_3 a_1/\CJG a_3 a_1/\gD a.k a_3.i =
 gD a.k a_1/\Uw a_3 a=BZV a a_1/\(∀(i:Nat),CAE i a_3 a->BNJ a_3 a i=gD a.k (CCS a_1+i))/\(↑(Uw a_3 a):Int)=(↑(BZV a a_1):Int)/\(↑a_3.j:Int)=0/\AQT a)/\BNR a
 a_3 a_1)/\∀(a_3:IJ2),BNR a a_3 a_1->bif decide (CBS a_3 a) then (0<=(↑a_3.j:Int)/\CBS a_3 a)/\(BMS a a_3=2/\(∀(i:Nat),i<BMS a a_3->gD (BNH a a_3) i=BNU i a a_3) /\
 BXV a/\CBX a/\CBD a/\CDD a/\(CCO a/\BMS a a_3<1073741824)/\BYZ a)/\bif BLI (GK.mk (AMC a) (BNH a a_3)) then (jU a).length=2/\∀(i:Nat),i<(jU a).length->gD (jU
 a) i=BNU i a a_3 else (0<=BMN a_3/\BMN a_3<=(↑a.k.length:Int)/\CJI a)/\(∃(a_5:IJK),(cT a/\aJ a/\cT a/\aJ a/\AZX a/\CDB a_5 a_3/\CDB a_5 a_3/\gD a.k a_5.i=gD
 a.k a_3.i/\Pu a_5 a=Uw a_3 a/\(∀(i:Nat),BZT i a_5 a->BCW a_5 a i=BNJ a_3 a i)/\(↑(Pu a_5 a):Int)=(↑(Uw a_3 a):Int)/\(↑a_5.j:Int)=(↑a_3.j:Int)/\ANS a_5 a =
 CDF a_3 a/\Wn a_5 a=BZK a a_3/\(∀(i:Nat),CBB i a_5 a->BMY a_5 a i=gD a.k (CBP a_3+i))/\(↑(Wn a_5 a):Int)=(↑(BZK a a_3):Int)/\(↑a_5.k:Int)=0/\AQT a)/\BNY
 a a_5 a_1 a_3)/\∀(a_5:IJK),BNY a a_5 a_1 a_3->bif decide (BYJ a_5 a) then (0<=(↑a_5.k:Int)/\BYJ a_5 a)/\(BMM a a_5=3/\(∀(i:Nat),i<BMM a a_5->gD (BNA a a_5) i=BNI i a
 a_5)/\BXV a/\CBX a/\CBD a/\CDD a/\(CCO a/\BMM a a_5<1073741824)/\BYZ a)/\bif BLI (GK.mk (AMC a) (BNA a a_5)) then (jU a).length=3/\∀(i:Nat),i<(jU a).length ->
 gD (jU a) i=BNI i a a_5 else ∃(a_7:IJK),(cT a/\aJ a/\cT a/\aJ a/\AZX a/\CDA a_7 a_5/\CDA a_7 a_5/\gD a.k a_7.i=gD a.k a_5.i/\Pu a_7 a=Pu a_5 a/\(∀(i:Nat),
 BZT i a_7 a->BCW a_7 a i=BCW a_5 a i)/\(↑(Pu a_7 a):Int)=(↑(Pu a_5 a):Int)/\(↑a_7.j:Int)=(↑a_5.j:Int)/\ANS a_7 a=ANS a_5 a/\Wn a_7 a=Wn a_5 a/\(∀(i:Nat),
 CBB i a_7 a->BMY a_7 a i=BMY a_5 a i)/\(↑(Wn a_7 a):Int)=(↑(Wn a_5 a):Int)/\(↑a_7.k:Int)=IntKind.i64.wrap ((↑a_5.k:Int)+1)/\AQT a)/\BNY a a_7 a_1 a_3/\BYN a_7 a <
 BYN a_5 a else ∃(a_7:IJ2),(cT a/\aJ a/\cT a/\aJ a/\AZX a/\BYX a_7 a_5/\BYX a_7 a_5/\gD a.k a_7.i=gD a.k a_5.i/\Uw a_7 a=Pu a_5 a/\(∀(i:Nat),CAE i a_7 a ->
 BNJ a_7 a i=BCW a_5 a i)/\(↑(Uw a_7 a):Int)=(↑(Pu a_5 a):Int)/\(↑a_7.j:Int)=IntKind.i64.wrap ((↑a_5.j:Int)+1)/\AQT a)/\BNR a a_7 a_1/\BNZ a_7 a<BNZ a_3 a else ∃
 (a_5:Nat),(cT a/\aJ a/\cT a/\aJ a/\AZX a/\(↑a_5:Int)=IntKind.i64.wrap ((↑a_3.i:Int)+1)/\AQT a)/\BZM a_5 a/\BDM a a_5<BDM a a_1 else CAQ a/\CAQ a):=by
 kernel_rfl
structure GPk where
 g:List Gau
 o:List Int
 a:Int
 b:Int
def dGPk:List AVal->Heap->Option (GPk×List (Nat×Nat)×List Nat)
 |[.d x,.d y,.bptr c _,.bptr id _],H=>match H id,H c with
  | .live (.box [.d (.list _ n h _)]),.live (.box [.d (.list _ m r _)])=>some (⟨KA n λi=>qG (h i),KA m λi=>EO (r i),EO x,EO y⟩,[(100,id),(101,c)],[])
  |_,_=>none
 |_,_=>none
def Vd(a:GPk):List Int:=(a.o.take a.b.toNat).drop a.a.toNat
def pkM(a:GPk):List Gau:=(Vd a).map λi=>gD a.g i.toNat
def pkH(a:GPk):List (Nat×HCell):=[(101,.live (.box [.d (FE a.o)])),(100,.live (bxG a.g))]
def pk3n(a:GPk):Shape:={ α:=One,dflt:=default,T:=λ_=>⟨[(3,.bptr 100 0),(7,.d TE),(13,.d (FE (Vd a))),(14,.int (Vd a).length),(15,.int 0)],pkH a⟩,inv:=λ_=>True,meas:=λ_=>(Vd a).length+1 }
def pk3o(a:GPk):Shape:={ α:=GsK,dflt:=default,T:=λx=>⟨[(3,.bptr 100 0),(7,.own 201 3 0 x.l.length),(13,.d (FE (Vd a))),(14,.int (Vd a).length),(15,.int x.i)],pkH a ++ [(201,.live (rowG x.l))]⟩,inv:=λx=>1<=x.i/\x.i<=(Vd a).length/\x.l=((Vd a).take x.i).map λi=>gD a.g i.toNat,meas:=λx=>(Vd a).length-x.i,again:=[(201,6096)] }
def C_pk:Ctr:={ ro:=[100,101],α:=GPk,xs:=λa=>[.int a.a,.int a.b,.bptr 101 0,.bptr 100 0],L:=λa=>[(101,.box [.d (FE a.o)]),(100,bxG a.g)],val:=λa=>.d (KZ (pkM a)),keep:=pkH,pre:=λa=>[(0<=a.a/\a.a<=a.b/\a.b<=a.o.length/\a.o.length<1073741824)/\∀x∈a.o,0<=x/\x<a.g.length] }
def A_pk(a:GPk):Ann:={ ann 28 [] with E:=[101,100],mt:=λid=>id==5,loops:=λid=>if id=3 then some [pk3n a,pk3o a] else none }
def V_pk(a:GPk):Prop:=BG Try.prog (A_pk a) BGA (AL BGA) (C_pk.xs a) (AF (C_pk.L a)) (C_pk.val a) (C_pk.keep a) [] [201]
abbrev qM:=GPk.o
abbrev Mb:=GPk.g
abbrev Jq a b:=AR (BN a) b
attribute [go_sem] qM Mb Jq
theorem DVA(a:GPk):(V_pk a)=(AY (AH (BC (GPk.a a)) (DJ (GPk.a a) (GPk.b a)) (Fq (GPk.b a) (qM a))) (ZY (λi=>NO AQ (LQ BK (Jq (Vd a) (IS (FZ (GPk.b a)) (FZ (GPk.a a)))) (λj=>FG j (Vd a) (qM a) (SG (FZ (GPk.a a)) j)) (AO (ER (Vd a)) (AU (IS (FZ (GPk.b a)) (FZ (GPk.a a))))) CL (GU (qM a)) (GI (qM a)) (BY (Mb a)) (BR (Mb a))) FI)) (Ip (λi=>FF FI 0 (ER (Vd a)) (AH (Tb 0 (Vd a)) (BB (VR (BJ (Vd a) 0) (Mb a)) (Hg 3) vP Ir Hf (UQ 24)) (Vh (λj=>JO (Yp (gN j) (GU (Vd a)) (GT (GI (Vd a)) (RL (Vd a)) (GV (BX j) (ED 0)) (GU (qM a)) (λk=>MC k (qM a)) (BY (Mb a)) (BR (Mb a)) (gN j) (AK (λk=>Jg k (HU j) (Ck (Mb a) (Wb (Vd a) 0)) (Mb a) (FZ (Wb (Vd a) 0)))))) (AH (T2 j) (JU (BX j) (Vd a)) (Cv j (BCO (λk=>FX (Mb a) (FZ k)) (yV (BX j) (Vd a))))) (BN (Vd a)) (BX j) (Dq (Vd a))))) (BB (gX (pkM a)) (gX (pkM a)) (GU (qM a)) (GI (qM a)) (BY (Mb a)) (BR (Mb a))))) (C1 (λi=>CX (AH (T2 i) (JU (BX i) (Vd a)) (Cv i (BCO (λj=>FX (Mb a) (FZ j)) (yV (BX i) (Vd a))))) (BX i) (ER (Vd a)) (AH (Nj (BX i) (Vd a)) (BB (VR (lG (Vd a) i) (Mb a)) (And (BY (HU i)) (GQ 0 (HU i) hZ)) vP Fp (RV (Uu i)) (UQ (Me (Uu i) 24))) (Vh (λj=>HR (Yp (iP j i) (GU (Vd a)) (GT (GI (Vd a)) (RL (Vd a)) (AV (BX j) (BX i)) (GU (qM a)) (λk=>MC k (qM a)) (BY (Mb a)) (BR (Mb a)) (iP j i) (AK (λk=>Vj k (HU j) k (Ke k i (Zu i k) (Ck (Mb a) (lG (Vd a) i))) (Ke k i (DZ (HU i) k) (DZ (Mb a) (FZ (lG (Vd a) i)))) (Ke k i (DY (HU i) k) (DY (Mb a) (FZ (lG (Vd a) i)))))))) (AH (T2 j) (JU (BX j) (Vd a)) (Cv j (BCO (λk=>FX (Mb a) (FZ k)) (yV (BX j) (Vd a))))) (BN (Vd a)) (BX j) (BX i)))) (FT (uB (pkM a) i) (KQ (BP (xM i)) (HU i)) (AK (λj=>Jg j (pkM a) (Zu i (BP j)) (HU i) (BP j))) (GU (qM a)) (GI (qM a)) (BY (Mb a)) (BR (Mb a)))))):=by kernel_rfl
theorem DTC:AM Try.prog V1 (C_kt1.spec dKt):=WY C_kt1 (λ_=>DOC) [] [] CDN (λ_=>by kernel_rfl) (λ_=>AB CHH (AB BHQ AG)) (λ(a:GK) h=>by
 show DNF a;rw[DQE]<;> delta JB hd5 Oz AR AK BO CI AO DJ QJ BN BJ JN EY GW CW FX Jb zS NW SF BDC AH LY NX LX NY AJ AZ AI DG BU BI DI DY BC DZ EZ DN GQ JA HE ID HC AW QL HY YB HL UW AY CG IA BY BB KC DR HN FG EN GH OH AS GC GM HO BR CR HJ AT DD CY QE XK OE Cs UE Qp vC pA AKM Hs BBA Hb TU cL Vk;simp only[CC,eq_self,implies_true,forall_const]
 obtain⟨⟨h1,h2⟩,h3⟩:(a.g.length<1073741824/\a.k.length<1073741824)/\∀g∈a.g,Oy g:=h
 exact⟨⟨h1,h2⟩,λ_=>DCM h3 h1,rfl⟩) (λ_=>YE rfl rfl) _
theorem BQJ{l:List Int}{i:Nat}(h:i<l.length):l.drop i=gD l i :: l.drop (i+1):=by
 rw[List.drop_eq_getElem_cons h];simp[gD,List.getD_eq_getElem?_getD,h]
theorem jR(l:List Int)(i j:Nat):gD (l.drop i) j=gD l (i+j):=by
 simp[gD,List.getD_eq_getElem?_getD]
theorem rng2(a b:Int):(KA 2 λi=>bif decide (i=0) then a else b)=[a,b]:=rfl
theorem rng3(a b c:Int):(KA 3 λi=>bif decide (i=0) then a else bif decide (i-1=0) then b else c)=[a,b,c]:=rfl
theorem all2(a b:Int):∀i,i<2->gD [a,b] i=bif decide (i=0) then a else b:=λi hi=>by
 match i,hi with
 |0,_=>rfl
 |1,_=>rfl
theorem all3(a b c:Int):∀i,i<3->gD [a,b,c] i=bif decide (i=0) then a else bif decide (i-1=0) then b else c:=λi hi=>by
 match i,hi with
 |0,_=>rfl
 |1,_=>rfl
 |2,_=>rfl
theorem DPK(g:List Gau)(a:Int)(bs:List Int):knt1 g (a :: bs)=orO (knt2 g a bs) (knt1 g bs):=rfl
theorem DSJ(g:List Gau)(a b:Int)(cs:List Int):knt2 g a (b :: cs)=bif BLI ⟨g,[a,b]⟩ then some [a,b] else orO (knt3 g a b cs) (knt2 g a cs):=rfl
theorem DST(g:List Gau)(a b c:Int)(cs:List Int):knt3 g a b (c :: cs)=bif BLI ⟨g,[a,b,c]⟩ then some [a,b,c] else knt3 g a b cs:=rfl
theorem p_kd(a:GK)(h1:a.g.length<1073741824)(h2:a.k.length<1073741824)(h3:∀g∈a.g,Oy g):V_kd a:=by
 rw[DWR];delta cT aJ AZX AQT BZM CKH BYT CJI CJG BET Uw CCS BZV CAE BNJ BDM BNR CBS BYC CDF BNU BNH BMS AMC BDW BXV BNG BYY CBE CBT CBX CBD CDD CCO BYZ BMN CDB BCK Pu BZT BCW ANS AMT Wn CBP BZK CBB BMY BNZ BNY BYJ BNI BNA BMM CDA BYN BYX CAQ;simp only[CC,eq_self,implies_true,forall_const,List.length_drop,rng2,rng3]
 refine⟨⟨0,rfl,Nat.zero_le _,rfl⟩,λi ⟨hi,hI⟩=>⟨λhlt=>?_,λhge=>?_⟩⟩
 ·have hlt:i<a.k.length:=Int.ofNat_lt.1 hlt
  rw[FN (by omega)]
  simp only[Int.toNat_natCast]
  rw[BQJ hlt,DPK] at hI
  refine⟨⟨by omega,by omega⟩,⟨by omega,by omega,Int.le_refl _⟩,⟨⟨i,0⟩,⟨rfl,rfl,rfl,rfl,λj hj=>jR _ _ _,rfl,rfl⟩,rfl,hlt,Nat.zero_le _,hI⟩,λx ⟨x1,x2,x3,x4⟩=>⟨λhj=>?_,λhj=>?_⟩⟩
  ·have hj:x.j<a.k.length-(x.i+1):=Int.ofNat_lt.1 hj
   have hxi:x.i=i:=by omega
   have e:(IntKind.i64.wrap (IntKind.i64.wrap ((x.i:Int)+x.j)+2))=((x.i+x.j+2:Nat):Int):=by
    rw[JC (n:=(x.i:Int)+x.j) (by omega) (by omega),JC (by omega) (by omega)];omega
   rw[BQJ (l:=a.k.drop (x.i+1)) (by rw[List.length_drop];omega),List.drop_drop,show x.i+1+(x.j+1)=x.i+x.j+2 by omega,DSJ] at x4
   refine⟨⟨by omega,by omega⟩,⟨rfl,all2 _ _,⟨h1,by show 2<1073741824;omega⟩,h3⟩,λht=>?_,λht=>?_⟩
   ·rw[ht] at x4
    have ek:jU a=[gD a.k x.i,gD (a.k.drop (x.i+1)) x.j]:=by unfold jU;rw[x4];rfl
    rw[ek];exact⟨rfl,all2 _ _⟩
   ·rw[ht] at x4
    rw[e];simp only[Int.toNat_natCast]
    refine⟨⟨by omega,by omega,Int.le_refl _⟩,⟨⟨x.i,x.j,0⟩,⟨rfl,rfl,rfl,rfl,λ_ _=>rfl,rfl,rfl,rfl,rfl,λj hj=>jR _ _ _,rfl,rfl⟩,x1,x2,rfl,hj,Nat.zero_le _,x4⟩,λy ⟨y1,y2,y3,y4,y5,y6⟩=>⟨λhk=>?_,λhk=>?_⟩⟩
    ·have hk:y.k<a.k.length-(y.i+y.j+2):=Int.ofNat_lt.1 hk
     rw[BQJ (l:=a.k.drop (y.i+y.j+2)) (by rw[List.length_drop];omega),DST] at y6
     refine⟨⟨by omega,by omega⟩,⟨rfl,all3 _ _ _,⟨h1,by show 3<1073741824;omega⟩,h3⟩,λht=>?_,λht=>?_⟩
     ·rw[ht] at y6
      have ek:jU a=[gD a.k y.i,gD (a.k.drop (y.i+1)) y.j,gD (a.k.drop (y.i+y.j+2)) y.k]:=by unfold jU;rw[y6];rfl
      rw[ek];exact⟨rfl,all3 _ _ _⟩
     ·rw[ht] at y6
      exact⟨⟨y.i,y.j,y.k+1⟩,⟨rfl,rfl,rfl,rfl,λ_ _=>rfl,rfl,rfl,rfl,rfl,λ_ _=>rfl,rfl,(FN (by omega)).symm⟩,⟨y1,y2,y3,y4,by show y.k+1<=a.k.length-(y.i+y.j+2);omega,y6⟩,by show a.k.length-(y.i+y.j+2)-(y.k+1)<_;omega⟩
    ·have hk:a.k.length-(y.i+y.j+2)<=y.k:=by omega
     rw[List.drop_of_length_le (l:=a.k.drop (y.i+y.j+2)) (by rw[List.length_drop];omega)] at y6
     refine⟨⟨y.i,y.j+1⟩,⟨rfl,rfl,rfl,rfl,λ_ _=>rfl,rfl,(FN (by omega)).symm⟩,⟨y1,y2,by show y.j+1<=a.k.length-(y.i+1);omega,?_⟩,by show a.k.length-(y.i+1)-(y.j+1)<_;omega⟩
     show _=orO (knt2 a.g (gD a.k y.i) ((a.k.drop (y.i+1)).drop (y.j+1))) _
     rw[List.drop_drop,show y.i+1+(y.j+1)=y.i+y.j+2 by omega];exact y6
  ·have hj:a.k.length-(x.i+1)<=x.j:=by omega
   rw[List.drop_of_length_le (l:=a.k.drop (x.i+1)) (by rw[List.length_drop];omega)] at x4
   exact⟨x.i+1,(FN (by omega)).symm,⟨by omega,x4⟩,by omega⟩
 ·rw[List.drop_of_length_le (by omega)] at hI
  have ek:jU a=[]:=by unfold jU;rw[hI];rfl
  rw[ek];rfl
theorem DXR:AM Try.prog BJF (C_kd.spec dGK):=WY C_kd A_kd [] [] CMJ (λ_=>by kernel_rfl) (λ_=>AB DTC AG) (λ(a:GK) h=>by
 obtain⟨⟨h1,h2⟩,h3⟩:(a.g.length<1073741824/\a.k.length<1073741824)/\∀g∈a.g,Oy g:=h
 exact p_kd a h1 h2 h3) (λ_=>YE rfl rfl) _
theorem DIM{a:GPk}(h:0<=a.a/\a.a<=a.b/\a.b<=a.o.length):(Vd a).length=a.b.toNat-a.a.toNat:=by
 unfold Vd;rw[List.length_drop,List.length_take];omega
theorem DRQ{a:GPk}{i:Nat}(h:i<(Vd a).length):gD (Vd a) i=gD a.o (a.a.toNat+i):=by
 unfold Vd at *
 rw[jR]
 rw[List.length_drop,List.length_take] at h
 simp[gD,List.getD_eq_getElem?_getD,List.getElem?_take,show a.a.toNat+i<a.b.toNat by omega]
theorem CRO{a:GPk}{x:Int}(h:x∈Vd a):x∈a.o:=List.mem_of_mem_take (List.mem_of_mem_drop h)
theorem p_pk(a:GPk)(h:0<=a.a/\a.a<=a.b/\a.b<=a.o.length/\a.o.length<1073741824)(hx:∀x∈a.o,0<=x/\x<a.g.length):V_pk a:=by
 rw[DVA]<;> delta JB Oz NE AR AK BO CI AO AU UH EA DV JD DJ DX OP IS FI QJ FZ SG Pg BN BJ ZY Ip Me tC EY GW yV CW FX BLB Vh HU BX C1 BCO qM Mb AH AJ AZ EV AI BI FJ DK AP DI DY ED BC DZ EZ DN GQ JF HE ER ID HC EU QL Dh HY AQ BP GT GY HL UW GU AY CG GV IA Gk Dq BY BB CK HV KC VQ DR CE FG GH OH Mm Ce EC AV BK ES FU GC KQ FF Vj MC GM HO Jg FW JO BR GJ GI CX NT Ji Wb ZI Bo CL UQ Fb HR Xl Jr MK JU RL Cv FT Jq Ht NO RV Fp VR Je El xM Hf uB LQ Uu Ir Ck AUV Hg Fq Ke Tb Nj Zu lG iP T2 vP hZ gN gX Yp;simp only[CC,eq_self,implies_true,forall_const]
 have hl:=DIM ⟨h.1,h.2.1,h.2.2.1⟩
 have hk:∀{i:Nat},i<(Vd a).length->0<=gD (Vd a) i/\gD (Vd a) i<a.g.length:=λhi=>hx _ (CRO (HI hi))
 have hm:∀i,(((Vd a).take i).map λi=>gD a.g i.toNat).length<=(Vd a).length:=λi=>by simp;omega
 refine⟨⟨h.1,h.2.1,h.2.2.1⟩,⟨default,hl,λi hi=>DRQ hi,by rw[hl]⟩,⟨λhlt=>⟨⟨by omega,by omega⟩,⟨hk (by omega),by omega,by omega,by omega,by omega,by omega⟩,⟨1,[gD a.g (gD (Vd a) 0).toNat]⟩,⟨rfl,rfl,rfl,λi hi=>?_⟩,⟨by show 0<1;omega,by show 1<=_;omega,?_⟩,by show (Vd a).length-1<_;omega⟩,λhge=>?_⟩,λx ⟨x1,x2,x3⟩=>⟨λhlt=>⟨⟨by omega,by omega⟩,⟨hk (by omega),by omega,λh=>(by cases h),?_,?_⟩,⟨x.i+1,x.l ++ [gD a.g (gD (Vd a) x.i).toNat]⟩,⟨by simp,(FN (by omega)).symm,by simp,CGD _ _⟩,⟨by show 0<x.i+1;omega,by show x.i+1<=_;omega,?_⟩,by show (Vd a).length-(x.i+1)<_;omega⟩,λhge=>?_⟩⟩
 ·have hi:i<1:=hi
  rw[show i=0 by omega];exact⟨rfl,rfl,rfl⟩
 ·show [gD a.g (gD (Vd a) 0).toNat]=((Vd a).take 1).map _
  rw[WX (by omega:0<(Vd a).length)];rfl
 ·unfold pkM;rw[List.length_map];omega
 ·have:=hm x.i;rw[<-x3] at this;omega
 ·have:=hm x.i;rw[<-x3] at this;omega
 ·show x.l ++ _=((Vd a).take (x.i+1)).map _
  rw[WX (by omega:x.i<(Vd a).length),List.map_append,x3];rfl
 ·have:x.l=pkM a:=by rw[x3,List.take_of_length_le (by omega)];rfl
  rw[this];exact⟨rfl,Nat.le_refl _,λ_ _=>⟨rfl,rfl,rfl⟩⟩
theorem DVO:AM Try.prog BJW (C_pk.spec dGPk):=WY C_pk A_pk [] [201] CIV (λ_=>by kernel_rfl) (λ_=>AG) (λ(a:GPk) h=>by
 obtain⟨h1,h2⟩:(0<=a.a/\a.a<=a.b/\a.b<=a.o.length/\a.o.length<1073741824)/\∀x∈a.o,0<=x/\x<a.g.length:=h
 exact p_pk a h1 h2) (λ_=>YE rfl rfl) _
end Go.Bal

namespace Go.Bal
open Go Go.Sym Go.Proofs
theorem DEE{α:Type}[Inhabited α]{l m:List α}(h:l.length=m.length)(h2:∀i,i<l.length->gD l i=gD m i):l=m:=by
 apply List.ext_getElem h
 intro i h3 h4
 have:=h2 i h3
 simpa[gD,List.getD_eq_getElem?_getD,h3,h4] using this
theorem DUQ{l:List Int}{j:Nat}(h:j+1<l.length):l=l.take j ++ (gD l j :: gD l (j+1) :: l.drop (j+2))/\swL l j=l.take j ++ (gD l (j+1) :: gD l j :: l.drop (j+2)):=by
 have e:l.drop j=gD l j :: gD l (j+1) :: l.drop (j+2):=by
  rw[BQJ (show j<l.length by omega),BQJ (show j+1<l.length from h)]
 refine⟨by rw[<-e,List.take_append_drop],?_⟩
 apply DEE
 ·rw[BRV];simp;omega
 ·intro i hi
  rw[BRV] at hi
  rw[BTX h,yX]
  have hl:(l.take j).length=j:=by simp;omega
  by_cases h1:i<j
  ·rw[if_pos (by rw[hl];exact h1),decide_eq_false (show ¬i=j by omega),decide_eq_false (show ¬i=j+1 by omega)]
   simp[gD,List.getD_eq_getElem?_getD,List.getElem?_take,h1]
  ·rw[if_neg (by rw[hl];exact h1),hl]
   by_cases h2:i=j
   ·subst h2;simp;rfl
   ·by_cases h3:i=j+1
    ·subst h3;rw[decide_eq_false h2,decide_eq_true rfl,show j+1-j=1 by omega];rfl
    ·rw[decide_eq_false h2,decide_eq_false h3]
     obtain⟨m,rfl⟩:∃m,i=j+2+m:=⟨i-j-2,by omega⟩
     rw[show j+2+m-j=m+2 by omega]
     show gD l (j+2+m)=gD (l.drop (j+2)) m
     rw[jR]
theorem DII{l:List Int}{j:Nat}(h:j+1<l.length):(swL l j).Perm l:=by
 obtain⟨h1,h2⟩:=DUQ h
 rw[h2]
 conv=>rhs;rw[h1]
 exact List.Perm.append_left _ (List.Perm.swap _ _ _)
theorem BEM{key:Int->Int}:∀(j:Nat) (l:List Int),j<l.length->(insJ key j l).Perm l
 |0,l,_=>List.Perm.refl _
 |j+1,l,h=>by
  unfold insJ
  cases decide (wB (key (gD l (j+1))) (key (gD l j))<0)
  ·exact List.Perm.refl _
  ·exact (BEM j _ (by rw[BRV];omega)).trans (DII h)
theorem CGI{key:Int->Int}:∀(n i:Nat) (l:List Int),i+n<=l.length->(stR key n i l).Perm l
 |0,_,l,_=>List.Perm.refl _
 |n+1,i,l,h=>by
  unfold stR
  have hp:=BEM (key:=key) i l (by omega)
  exact (CGI n (i+1) _ (by rw[hp.length_eq];omega)).trans hp
theorem DBX(key:Int->Int)(l:List Int):(stM key l).Perm l:=by
 unfold stM
 by_cases h:l.length=0
 ·rw[h];exact List.Perm.refl _
 ·exact CGI _ _ _ (by omega)
theorem DFH{a b:Int}:wB a b<0↔a<b:=by
 unfold wB
 by_cases h:a<b
 ·simp[h]
 ·by_cases h2:b<a
  ·simp[h,h2]
  ·simp[h,h2]
def DTS(key:Int->Int)(i j:Nat)(l:List Int):Prop:=(∀p q,p<q->q<=i->p≠j->q≠j->key (gD l p)<=key (gD l q))/\∀q,j<q->q<=i->key (gD l j)<=key (gD l q)
def upS(key:Int->Int)(i:Nat)(l:List Int):Prop:=∀p q,p<q->q<=i->key (gD l p)<=key (gD l q)
theorem BME{key:Int->Int}{i:Nat}:∀(j:Nat) (l:List Int),j<=i->i<l.length->DTS key i j l->upS key i (insJ key j l)
 |0,l,_,hl,h=>λp q h1 h2=>by
  show key (gD l p)<=key (gD l q)
  by_cases hp:p=0
  ·subst hp;exact h.2 q h1 h2
  ·exact h.1 p q h1 h2 hp (by omega)
 |j+1,l,hj,hl,h=>by
  unfold insJ
  by_cases hc:key (gD l (j+1))<key (gD l j)
  ·rw[decide_eq_true (DFH.2 hc)]
   refine BME j (swL l j) (by omega) (by rw[BRV];omega) ⟨λp q h1 h2 h3 h4=>?_,λq h1 h2=>?_⟩
   ·rw[BTX (by omega),BTX (by omega),decide_eq_false h3,decide_eq_false h4]
    by_cases hp:p=j+1
    ·subst hp
     rw[decide_eq_true rfl,decide_eq_false (show ¬q=j+1 by omega)]
     exact h.1 j q (by omega) h2 (by omega) (by omega)
    ·by_cases hq:q=j+1
     ·subst hq
      rw[decide_eq_true rfl,decide_eq_false hp]
      exact h.1 p j (by omega) (by omega) hp (by omega)
     ·rw[decide_eq_false hp,decide_eq_false hq]
      exact h.1 p q h1 h2 hp hq
   ·rw[BTX (by omega),BTX (by omega),decide_eq_true rfl,decide_eq_false (show ¬q=j by omega)]
    by_cases hq:q=j+1
    ·subst hq;rw[decide_eq_true rfl];exact Int.le_of_lt hc
    ·rw[decide_eq_false hq];exact h.2 q (by omega) h2
  ·rw[decide_eq_false (λhx=>hc (DFH.1 hx))]
   intro p q h1 h2
   show key (gD l p)<=key (gD l q)
   by_cases hp:p=j+1
   ·subst hp;exact h.2 q h1 h2
   ·by_cases hq:q=j+1
    ·subst hq
     by_cases hpj:p=j
     ·subst hpj;omega
     ·have:=h.1 p j (by omega) (by omega) hp (by omega);omega
    ·exact h.1 p q h1 h2 hp hq
theorem BRT{key:Int->Int}:∀(n i:Nat) (l:List Int),1<=i->i+n=l.length->upS key (i-1) l->upS key (l.length-1) (stR key n i l)
 |0,i,l,h1,h2,h=>by
  rw[show l.length-1=i-1 by omega];exact h
 |n+1,i,l,h1,h2,h=>by
  unfold stR
  have hp:=BEM (key:=key) i l (by omega)
  have:=BRT (key:=key) n (i+1) (insJ key i l) (by omega) (by rw[hp.length_eq];omega) (BME i l (Nat.le_refl _) (by omega) ⟨λp q a b c d=>h p q a (by omega),λq a b=>by omega⟩)
  rw[hp.length_eq] at this;exact this
theorem CIT(key:Int->Int)(l:List Int):upS key (l.length-1) (stM key l):=by
 unfold stM
 by_cases h:l.length=0
 ·intro p q h1 h2;omega
 ·exact BRT _ 1 l (Nat.le_refl _) (by omega) (λp q a b=>by omega)
end Go.Bal
