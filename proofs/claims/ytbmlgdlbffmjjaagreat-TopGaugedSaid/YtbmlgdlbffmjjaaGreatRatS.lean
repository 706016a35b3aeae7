/- Package rating: what ties; gaugings that are picked. -/
import Derived.Test.YtbmlgdlbffmjjaaGreatRatR
set_option linter.unusedVariables false
set_option linter.unusedSimpArgs false
namespace Go.Bal
open Go Go.Sym Go.Proofs
def ABH(a:GK):Bool:=bif (nmM a).2 then !(NA (nmM a).1).2 else false
def dKt:List AVal->Heap->Option (GK×List (Nat×Nat)×List Nat)
 |[x,.bptr id _],H=>match I7 x H,H id with
  |some (m,e),.live (.box [.d (.list _ n h _)])=>some (⟨WA n λi=>gJ (h i),m⟩,[(100,id)],e)
  |_,_=>none
 |_,_=>none
def C_kt1:Ctr:={ ro:=[100],α:=GK,xs:=λa=>[.d (IM a.k),.bptr 100 0],L:=λa=>[(100,bxG a.g)],val:=λa=>.bool (ABH a),keep:=λa=>[(100,.live (bxG a.g))],pre:=λa=>[(a.g.length<1073741824/\a.k.length<1073741824)/\∀g∈a.g,Ht g] }
def CHX:Ann:={ ann 17 [(ARC,C_named.spec dGK),(N7,C_isKnot.spec dGsK)] with E:=[100] }
def CHG(a:GK):Prop:=AX Try.prog CHX C4 (AF C4) (C_kt1.xs a) (AC (C_kt1.L a)) (C_kt1.val a) (C_kt1.keep a) [] []
abbrev qZ a b:=GK.mk (uW a) (EL (RS b))
attribute [go_sem] qZ
theorem COX(a:GK):(CHG a)=(AI (AV (CN (XQ a)) (CW (XQ a)) (HJ (RS a)) (GX (RS a)) (TH (uW a)) (Ar (JR (RS a)))) (FW (AEF (nmM (qZ a a))) (AQ (CN (bT (qZ a a))) (CW (bT (qZ a a))) (Zw (bT (qZ a a))) (TA (λi=>QV i (BB (bT (qZ a a))) i i i i)))) (HY (ABH a) (AEF (nmM (qZ a a))) (not (Ef (BB (bT (qZ a a)))))) (BW (XQ a)) (BX (XQ a))):=by kernel_rfl
def knt3(g:List Gau)(a b:Int):List Int->Option (List Int)
 |[]=>none
 |c :: cs=>bif ABH ⟨g,[a,b,c]⟩ then some [a,b,c] else knt3 g a b cs
def orO(x y:Option (List Int)):Option (List Int):=match x with
 |some z=>some z
 |none=>y
def knt2(g:List Gau)(a:Int):List Int->Option (List Int)
 |[]=>none
 |b :: cs=>bif ABH ⟨g,[a,b]⟩ then some [a,b] else orO (knt3 g a b cs) (knt2 g a cs)
def yA(g:List Gau):List Int->Option (List Int)
 |[]=>none
 |a :: bs=>orO (knt2 g a bs) (yA g bs)
def bC(a:GK):List Int:=(yA a.g a.k).getD []
structure IJK where
 i:Nat
 j:Nat
 k:Nat
 deriving Inhabited
structure IJ2 where
 i:Nat
 j:Nat
 deriving Inhabited
def kdS(a:GK)(i:Nat):List (Nat×AVal):=[(1,.d (IM a.k)),(5,.fn (.func oT) [] [.bptr 1000 0]),(13,.d (IM a.k)),(14,.int a.k.length),(15,.int i)]
def kdT(a:GK)(i j:Nat):List (Nat×AVal):=kdS a i ++ [(6,.int i),(7,.int (gD a.k i)),(23,.d (IM (a.k.drop (i+1)))),(24,.int (a.k.drop (i+1)).length),(25,.int j)]
def kdH(a:GK):List (Nat×HCell):=[(1000,.live (bxG a.g))]
def kd3(a:GK):Shape:={ α:=Nat,dflt:=0,T:=λi=>⟨kdS a i,kdH a⟩,inv:=λi=>i<=a.k.length/\yA a.g a.k=yA a.g (a.k.drop i),meas:=λi=>a.k.length-i }
def kd6(a:GK)(m:Nat):Shape:={ α:=IJ2,dflt:=default,T:=λx=>⟨kdT a x.i x.j,kdH a⟩,inv:=λx=>a.k.length-x.i=m/\x.i<a.k.length/\x.j<=(a.k.drop (x.i+1)).length/\yA a.g a.k=orO (knt2 a.g (gD a.k x.i) ((a.k.drop (x.i+1)).drop x.j)) (yA a.g (a.k.drop (x.i+1))),meas:=λx=>(a.k.drop (x.i+1)).length-x.j }
def kd11(a:GK)(m q:Nat):Shape:={ α:=IJK,dflt:=default,T:=λx=>⟨kdT a x.i x.j ++ [(9,.int (gD (a.k.drop (x.i+1)) x.j)),(43,.d (IM (a.k.drop (x.i+x.j+2)))),(44,.int (a.k.drop (x.i+x.j+2)).length),(45,.int x.k)],kdH a⟩,inv:=λx=>a.k.length-x.i=m/\x.i<a.k.length/\(a.k.drop (x.i+1)).length-x.j=q/\x.j<(a.k.drop (x.i+1)).length/\x.k<=(a.k.drop (x.i+x.j+2)).length/\yA a.g a.k=orO (orO (knt3 a.g (gD a.k x.i) (gD (a.k.drop (x.i+1)) x.j) ((a.k.drop (x.i+x.j+2)).drop x.k)) (knt2 a.g (gD a.k x.i) (a.k.drop (x.i+x.j+2)))) (yA a.g (a.k.drop (x.i+1))),meas:=λx=>(a.k.drop (x.i+x.j+2)).length-x.k }
def C_kd:Ctr:={ α:=GK,xs:=xGK,L:=λ_=>[],val:=λa=>.d (IM (bC a)),keep:=λ_=>[],pre:=λa=>[(a.g.length<1073741824/\a.k.length<1073741824)/\∀g∈a.g,Ht g] }
def A_kd(a:GK):Ann:={ ann 62 [(oT,C_kt1.spec dKt)] with md:=λid=>if id=8 then some (λk=>if k=3 then 4 else 0) else if id=9 then some (λk=>if k=2 then 4 else 0) else if id=13 then some (λk=>if k=4 then 4 else 0) else if id=14 then some (λk=>if k=3 then 4 else 0) else none,loops:=λid=>if id=3 then some [kd3 a] else none,inner:=λgs id=>if id=6 then some [kd6 a (gs.getD 0 0)] else if id=11 then some [kd11 a (gs.getD 1 0) (gs.getD 0 0)] else none }
def V_kd(a:GK):Prop:=AX Try.prog (A_kd a) R7 (AF R7) (xGK a) (AC []) (C_kd.val a) [] [] []
abbrev Sc(a:GK):Prop:=a.k.length=a.k.length
abbrev Tv(a:GK):Prop:=∀(i:Nat),i<a.k.length->gD a.k i=gD a.k i
abbrev B5(a:GK):Prop:=(↑a.k.length:Int)=(↑a.k.length:Int)
abbrev B8(a:GK):Prop:=a.g.length=a.g.length/\∀(i:Nat),i<a.g.length->(gD a.g i).st=(gD a.g i).st/\(gD a.g i).lo=(gD a.g i).lo/\(gD a.g i).hi=(gD a.g i).hi
abbrev AUG(a:Nat)(a1:GK):Prop:=a<=a1.k.length/\yA a1.g a1.k=yA a1.g (List.drop a a1.k)
abbrev BAS(a:Nat)(a1:GK):Prop:=(↑a:Int)<(↑a1.k.length:Int)
abbrev ASE(a:Nat):Int:=IntKind.i64.wrap ((↑a:Int)+1)
abbrev BDK(a:GK):Prop:=(↑a.k.length:Int)<=(↑a.k.length:Int)
abbrev BBS(a:IJ2)(a1:Nat):Prop:=(↑a.i:Int)=(↑a1:Int)
abbrev P9(a:IJ2)(a1:GK):List Int:=List.drop (a.i+1) a1.k
abbrev Nr(a:IJ2)(a1:GK):Nat:=(P9 a a1).length
abbrev ASV(a:Nat):Nat:=(ASE a).toNat
abbrev ARM(a:GK)(a1:Nat):Nat:=a.k.length-ASV a1
abbrev ASX(i:Nat)(a:IJ2)(a1:GK):Prop:=i<Nr a a1
abbrev ADD(a:IJ2)(a1:GK)(i:Nat):Int:=gD (P9 a a1) i
abbrev J4(a:GK)(a1:Nat):Nat:=a.k.length-a1
abbrev ACZ(a:GK)(a1:IJ2)(a2:Nat):Prop:=a.k.length-a1.i=J4 a a2/\a1.i<a.k.length/\a1.j<=Nr a1 a/\yA a.g a.k=orO (knt2 a.g (gD a.k a1.i) (List.drop a1.j (P9 a1 a))) (yA a.g
 (P9 a1 a))
abbrev ASS(a:IJ2)(a1:GK):Prop:=(↑a.j:Int)<(↑(Nr a a1):Int)
abbrev ATO(i:Nat):Bool:=decide (i=0)
abbrev AQA(a:IJ2)(a1:GK):Int:=gD (P9 a a1) a.j
abbrev ABY(i:Nat)(a:GK)(a1:IJ2):Int:=bif ATO i then gD a.k a1.i else AQA a1 a
abbrev ACF(a:GK)(a1:IJ2):List Int:=WA 2 λ(i:Nat)=>ABY i a a1
abbrev ACC(a:GK)(a1:IJ2):Nat:=(ACF a a1).length
abbrev xK(a:GK):List Gau:=WA a.g.length λ(i:Nat)=>gD a.g i
abbrev H7(a:GK):Nat:=(xK a).length
abbrev AQZ(a:GK):Prop:=H7 a=a.g.length
abbrev ACL(a:GK)(i:Nat):Gau:=gD (xK a) i
abbrev ATN(a:GK)(i:Nat):Int:=(ACL a i).st
abbrev AOS(a:GK)(i:Nat):Int:=(ACL a i).lo
abbrev AUE(a:GK)(i:Nat):Int:=(ACL a i).hi
abbrev AQX(a:GK):Prop:=∀(i:Nat),i<H7 a->ATN a i=(gD a.g i).st/\AOS a i=(gD a.g i).lo/\AUE a i=(gD a.g i).hi
abbrev API(a:GK):Prop:=a.g.length=H7 a
abbrev AUJ(a:GK):Prop:=∀(i:Nat),i<a.g.length->(gD a.g i).st=ATN a i/\(gD a.g i).lo=AOS a i/\(gD a.g i).hi=AUE a i
abbrev AQI(a:GK):Prop:=H7 a<1073741824
abbrev AUN(a:GK):Prop:=∀(g:Gau),List.Mem g (xK a)->0<=g.st/\g.st<=2000/\0<=g.lo/\g.lo<=g.hi/\g.hi<=200000
abbrev ACE(a:IJ2):Int:=IntKind.i64.wrap (IntKind.i64.wrap ((↑a.i:Int)+(↑a.j:Int))+2)
abbrev AUR(a:IJK)(a1:IJ2):Prop:=(↑a.i:Int)=(↑a1.i:Int)
abbrev F9(a:IJK)(a1:GK):List Int:=List.drop (a.i+1) a1.k
abbrev Kp(a:IJK)(a1:GK):Nat:=(F9 a a1).length
abbrev ASJ(i:Nat)(a:IJK)(a1:GK):Prop:=i<Kp a a1
abbrev G0(a:IJK)(a1:GK)(i:Nat):Int:=gD (F9 a a1) i
abbrev xR(a:IJK)(a1:GK):Int:=gD (F9 a a1) a.j
abbrev xH(a:IJK)(a1:GK):List Int:=List.drop (a.i+a.j+2) a1.k
abbrev Oa(a:IJK)(a1:GK):Nat:=(xH a a1).length
abbrev ARO(a:IJ2):Nat:=(ACE a).toNat
abbrev AQH(a:GK)(a1:IJ2):Nat:=a.k.length-ARO a1
abbrev APH(i:Nat)(a:IJK)(a1:GK):Prop:=i<Oa a a1
abbrev ACW(a:IJK)(a1:GK)(i:Nat):Int:=gD (xH a a1) i
abbrev ACJ(a:IJ2)(a1:GK):Nat:=Nr a a1-a.j
abbrev ACM(a:GK)(a1:IJK)(a2:Nat)(a3:IJ2):Prop:=a.k.length-a1.i=J4 a a2/\a1.i<a.k.length/\Kp a1 a-a1.j=ACJ a3 a/\a1.j<Kp a1 a/\a1.k<=Oa a1 a/\yA a.g a.k =
 orO (orO (knt3 a.g (gD a.k a1.i) (xR a1 a) (List.drop a1.k (xH a1 a))) (knt2 a.g (gD a.k a1.i) (xH a1 a))) (yA a.g (F9 a1 a))
abbrev AUK(a:IJK)(a1:GK):Prop:=(↑a.k:Int)<(↑(Oa a a1):Int)
abbrev ADI(i:Nat)(a:GK)(a1:IJK):Int:=bif ATO i then gD a.k a1.i else bif decide (i-1=0) then xR a1 a else gD (xH a1 a) a1.k
abbrev ACA(a:GK)(a1:IJK):List Int:=WA 3 λ(i:Nat)=>ADI i a a1
abbrev ADP(a:GK)(a1:IJK):Nat:=(ACA a a1).length
abbrev ASN(a:IJK)(a1:IJK):Prop:=(↑a.i:Int)=(↑a1.i:Int)
abbrev ARH(a:IJK)(a1:GK):Nat:=Oa a a1-a.k
abbrev ATX(a:IJ2)(a1:IJK):Prop:=(↑a.i:Int)=(↑a1.i:Int)
abbrev AUC(a:GK):Prop:=(bC a).length=0
theorem CQQ(a:GK):(V_kd a)=((∃(a_1:Nat),(Sc a/\Tv a/\Sc a/\Tv a/\B5 a/\(↑a_1:Int)=0/\B8 a)/\AUG a_1 a)/\∀(a_1:Nat),AUG a_1 a->bif decide (BAS a_1 a) then (0
 <= (↑a_1:Int)/\BAS a_1 a)/\(0<=ASE a_1/\ASE a_1<=(↑a.k.length:Int)/\BDK a)/\(∃(a_3:IJ2),(Sc a/\Tv a/\Sc a/\Tv a/\B5 a/\BBS a_3 a_1/\BBS a_3 a_1/\gD a.k a_3.i =
 gD a.k a_1/\Nr a_3 a=ARM a a_1/\(∀(i:Nat),ASX i a_3 a->ADD a_3 a i=gD a.k (ASV a_1+i))/\(↑(Nr a_3 a):Int)=(↑(ARM a a_1):Int)/\(↑a_3.j:Int)=0/\B8 a)/\ACZ a
 a_3 a_1)/\∀(a_3:IJ2),ACZ a a_3 a_1->bif decide (ASS a_3 a) then (0<=(↑a_3.j:Int)/\ASS a_3 a)/\(ACC a a_3=2/\(∀(i:Nat),i<ACC a a_3->gD (ACF a a_3) i=ABY i a a_3) /\
 AQZ a/\AQX a/\API a/\AUJ a/\(AQI a/\ACC a a_3<1073741824)/\AUN a)/\bif ABH (GK.mk (xK a) (ACF a a_3)) then (bC a).length=2/\∀(i:Nat),i<(bC a).length->gD (bC
 a) i=ABY i a a_3 else (0<=ACE a_3/\ACE a_3<=(↑a.k.length:Int)/\BDK a)/\(∃(a_5:IJK),(Sc a/\Tv a/\Sc a/\Tv a/\B5 a/\AUR a_5 a_3/\AUR a_5 a_3/\gD a.k a_5.i=gD
 a.k a_3.i/\Kp a_5 a=Nr a_3 a/\(∀(i:Nat),ASJ i a_5 a->G0 a_5 a i=ADD a_3 a i)/\(↑(Kp a_5 a):Int)=(↑(Nr a_3 a):Int)/\(↑a_5.j:Int)=(↑a_3.j:Int)/\xR a_5 a =
 AQA a_3 a/\Oa a_5 a=AQH a a_3/\(∀(i:Nat),APH i a_5 a->ACW a_5 a i=gD a.k (ARO a_3+i))/\(↑(Oa a_5 a):Int)=(↑(AQH a a_3):Int)/\(↑a_5.k:Int)=0/\B8 a)/\ACM
 a a_5 a_1 a_3)/\∀(a_5:IJK),ACM a a_5 a_1 a_3->bif decide (AUK a_5 a) then (0<=(↑a_5.k:Int)/\AUK a_5 a)/\(ADP a a_5=3/\(∀(i:Nat),i<ADP a a_5->gD (ACA a a_5) i=ADI i a
 a_5)/\AQZ a/\AQX a/\API a/\AUJ a/\(AQI a/\ADP a a_5<1073741824)/\AUN a)/\bif ABH (GK.mk (xK a) (ACA a a_5)) then (bC a).length=3/\∀(i:Nat),i<(bC a).length ->
 gD (bC a) i=ADI i a a_5 else ∃(a_7:IJK),(Sc a/\Tv a/\Sc a/\Tv a/\B5 a/\ASN a_7 a_5/\ASN a_7 a_5/\gD a.k a_7.i=gD a.k a_5.i/\Kp a_7 a=Kp a_5 a/\(∀(i:Nat),
 ASJ i a_7 a->G0 a_7 a i=G0 a_5 a i)/\(↑(Kp a_7 a):Int)=(↑(Kp a_5 a):Int)/\(↑a_7.j:Int)=(↑a_5.j:Int)/\xR a_7 a=xR a_5 a/\Oa a_7 a=Oa a_5 a/\(∀(i:Nat),
 APH i a_7 a->ACW a_7 a i=ACW a_5 a i)/\(↑(Oa a_7 a):Int)=(↑(Oa a_5 a):Int)/\(↑a_7.k:Int)=IntKind.i64.wrap ((↑a_5.k:Int)+1)/\B8 a)/\ACM a a_7 a_1 a_3/\ARH a_7 a <
 ARH a_5 a else ∃(a_7:IJ2),(Sc a/\Tv a/\Sc a/\Tv a/\B5 a/\ATX a_7 a_5/\ATX a_7 a_5/\gD a.k a_7.i=gD a.k a_5.i/\Nr a_7 a=Kp a_5 a/\(∀(i:Nat),ASX i a_7 a ->
 ADD a_7 a i=G0 a_5 a i)/\(↑(Nr a_7 a):Int)=(↑(Kp a_5 a):Int)/\(↑a_7.j:Int)=IntKind.i64.wrap ((↑a_5.j:Int)+1)/\B8 a)/\ACZ a a_7 a_1/\ACJ a_7 a<ACJ a_3 a else ∃
 (a_5:Nat),(Sc a/\Tv a/\Sc a/\Tv a/\B5 a/\(↑a_5:Int)=IntKind.i64.wrap ((↑a_3.i:Int)+1)/\B8 a)/\AUG a_5 a/\J4 a a_5<J4 a a_1 else AUC a/\AUC a):=by
 kernel_rfl
structure GPk where
 g:List Gau
 o:List Int
 a:Int
 b:Int
def dGPk:List AVal->Heap->Option (GPk×List (Nat×Nat)×List Nat)
 |[.d x,.d y,.bptr c _,.bptr id _],H=>match H id,H c with
  | .live (.box [.d (.list _ n h _)]),.live (.box [.d (.list _ m r _)])=>some (⟨WA n λi=>gJ (h i),WA m λi=>LR (r i),LR x,LR y⟩,[(100,id),(101,c)],[])
  |_,_=>none
 |_,_=>none
def aY(a:GPk):List Int:=(a.o.take a.b.toNat).drop a.a.toNat
def pkM(a:GPk):List Gau:=(aY a).map λi=>gD a.g i.toNat
def pkH(a:GPk):List (Nat×HCell):=[(101,.live (.box [.d (IM a.o)])),(100,.live (bxG a.g))]
def pk3n(a:GPk):Shape:={ α:=One,dflt:=default,T:=λ_=>⟨[(3,.bptr 100 0),(7,.d gK),(13,.d (IM (aY a))),(14,.int (aY a).length),(15,.int 0)],pkH a⟩,inv:=λ_=>True,meas:=λ_=>(aY a).length+1 }
def pk3o(a:GPk):Shape:={ α:=GsK,dflt:=default,T:=λx=>⟨[(3,.bptr 100 0),(7,.own 201 3 0 x.l.length),(13,.d (IM (aY a))),(14,.int (aY a).length),(15,.int x.i)],pkH a ++ [(201,.live (rowG x.l))]⟩,inv:=λx=>1<=x.i/\x.i<=(aY a).length/\x.l=((aY a).take x.i).map λi=>gD a.g i.toNat,meas:=λx=>(aY a).length-x.i,again:=[(201,6096)] }
def C_pk:Ctr:={ ro:=[100,101],α:=GPk,xs:=λa=>[.int a.a,.int a.b,.bptr 101 0,.bptr 100 0],L:=λa=>[(101,.box [.d (IM a.o)]),(100,bxG a.g)],val:=λa=>.d (KD (pkM a)),keep:=pkH,pre:=λa=>[(0<=a.a/\a.a<=a.b/\a.b<=a.o.length/\a.o.length<1073741824)/\∀x∈a.o,0<=x/\x<a.g.length] }
def A_pk(a:GPk):Ann:={ ann 28 [] with E:=[101,100],mt:=λid=>id==5,loops:=λid=>if id=3 then some [pk3n a,pk3o a] else none }
def V_pk(a:GPk):Prop:=AX Try.prog (A_pk a) P6 (AF P6) (C_pk.xs a) (AC (C_pk.L a)) (C_pk.val a) (C_pk.keep a) [] [201]
abbrev gT:=GPk.o
abbrev Ki:=GPk.g
abbrev Zb a:=FI (aY a)
attribute [go_sem] gT Ki Zb
theorem CQV(a:GPk):(V_pk a)=(AQ (AG (BG (GPk.a a)) (DC (GPk.a a) (GPk.b a)) (DC (GPk.b a) (YS (gT a)))) (NM (LB (FA RX (GM (aY a) (KE (MW (GPk.b a)) (MW (GPk.a a)))) (AE (λi=>HD i (aY a) (NK (aY a) i (gT a) (jQ (GPk.a a) i)))) (BC (Zb a) (KE (MW (GPk.b a)) (MW (GPk.a a)))) AL (HS (gT a)) (λi=>PI i (gT a)) (BW (Ki a)) (BX (Ki a))))) (ZV (λi=>MD FT (NX 0 (YS (aY a))) (AG (IC (Zb a)) (AV (TF (IQ (aY a) 0) (Ki a)) (XA 3) (UY 3) GV (Lq 9223372036854775807) (LO 24)) (mD (λj=>SA (SP (Rc j 1) (HS (aY a)) (FA (λk=>PI k (aY a)) (PC (aY a)) (JD (EC j) 0) (HS (gT a)) (EG (gT a)) (BW (Ki a)) (λk=>ME k (Ki a)) (Rc j 1) (AE (λk=>Xi k (JW j) (Ki a) (MW (Zu (aY a) 0)))))) (FG (pC j) (EC j) (Zb a) (Ed j (M2 (λk=>GU (Ki a) (MW k)) (yB (EC j) (aY a))))) (Zb a) (EC j) (CL (Zb a))))) (AV (Tc (pkM a)) (Tc (pkM a)) (HS (gT a)) (EG (gT a)) (BW (Ki a)) (BX (Ki a))))) (L4 (λi=>MU (FG (pC i) (EC i) (Zb a) (Ed i (M2 (λj=>GU (Ki a) (MW j)) (yB (EC i) (aY a))))) (EC i) (Zb a) (AG (BE (EC i) (Zb a)) (AV (TF (cL (aY a) i) (Ki a)) (And (BW (JW i)) (JH 0 (JW i) FX)) (UY 3) JE (CV (Xt i) 9223372036854775807) (LO (SK (Xe i) 24))) (mD (λj=>FB (SP (Rc j (Xt i)) (HS (aY a)) (FA (λk=>PI k (aY a)) (PC (aY a)) (AU (EC j) (EC i)) (HS (gT a)) (EG (gT a)) (BW (Ki a)) (λk=>ME k (Ki a)) (Rc j (Xt i)) (AE (λk=>DV k (JW j) (Us k i (DY (JW i) k) (Bq (Ki a) (cL (aY a) i))) (Us k i (DO (JW i) k) (DO (Ki a) (MW (cL (aY a) i)))) (Us k i (DI (JW i) k) (DI (Ki a) (MW (cL (aY a) i)))))))) (FG (pC j) (EC j) (Zb a) (Ed j (M2 (λk=>GU (Ki a) (MW k)) (yB (EC j) (aY a))))) (Zb a) (EC j) (EC i)))) (FK (Tm (pkM a) i) (HE (AP (Xe i)) (JW i)) (AE (λj=>Xi j (pkM a) (JW i) (AP j))) (HS (gT a)) (EG (gT a)) (BW (Ki a)) (BX (Ki a)))))):=by kernel_rfl
theorem CME:AH Try.prog oT (C_kt1.spec dKt):=PU C_kt1 (λ_=>CHX) [] [] AXR (λ_=>by kernel_rfl) (λ_=>AA BTL (AA AOK AD)) (λ(a:GK) h=>by
 show CHG a;rw[COX]<;> delta LI Wo UD KA LV JY HU AK AN FI AE BA BN IQ DC Ff BP GU TA RS XQ AEF AG AI AO AJ AR VW QM CM EL BB DY HZ BG HC BW DI MK JH DO VT HD AQ JI JO KC MM CI OS GI NK GM AV RR ZQ BK IY HI FW RJ IA ME DV BY UA KL EF BQ BU ON Cq BX US Ap WH CN CW JR HJ HY GX TH Ef Ar uW QV bT Zw qZ;simp only[CC,CU]
 obtain⟨⟨h1,h2⟩,h3⟩:(a.g.length<1073741824/\a.k.length<1073741824)/\∀g∈a.g,Ht g:=h
 exact⟨⟨h1,h2⟩,λ_=>CNJ h3 h1,rfl⟩) (λ_=>RU rfl rfl) _
theorem AHS{l:List Int}{i:Nat}(h:i<l.length):l.drop i=gD l i :: l.drop (i+1):=by
 rw[List.drop_eq_getElem_cons h];simp[gD,List.getD_eq_getElem?_getD,h]
theorem bF(l:List Int)(i j:Nat):gD (l.drop i) j=gD l (i+j):=by
 simp[gD,List.getD_eq_getElem?_getD]
theorem rng2(a b:Int):(WA 2 λi=>bif decide (i=0) then a else b)=[a,b]:=rfl
theorem rng3(a b c:Int):(WA 3 λi=>bif decide (i=0) then a else bif decide (i-1=0) then b else c)=[a,b,c]:=rfl
theorem all2(a b:Int):∀i,i<2->gD [a,b] i=bif decide (i=0) then a else b:=λi hi=>by
 match i,hi with
 |0,_=>rfl
 |1,_=>rfl
theorem all3(a b c:Int):∀i,i<3->gD [a,b,c] i=bif decide (i=0) then a else bif decide (i-1=0) then b else c:=λi hi=>by
 match i,hi with
 |0,_=>rfl
 |1,_=>rfl
 |2,_=>rfl
theorem CKZ(g:List Gau)(a:Int)(bs:List Int):yA g (a :: bs)=orO (knt2 g a bs) (yA g bs):=rfl
theorem COD(g:List Gau)(a b:Int)(cs:List Int):knt2 g a (b :: cs)=bif ABH ⟨g,[a,b]⟩ then some [a,b] else orO (knt3 g a b cs) (knt2 g a cs):=rfl
theorem CKW(g:List Gau)(a b c:Int)(cs:List Int):knt3 g a b (c :: cs)=bif ABH ⟨g,[a,b,c]⟩ then some [a,b,c] else knt3 g a b cs:=rfl
theorem p_kd(a:GK)(h1:a.g.length<1073741824)(h2:a.k.length<1073741824)(h3:∀g∈a.g,Ht g):V_kd a:=by
 rw[CQQ];delta Sc Tv B5 B8 AUG BAS ASE BDK BBS P9 Nr ASV ARM ASX ADD J4 ACZ ASS ATO AQA ABY ACF ACC xK H7 AQZ ACL ATN AOS AUE AQX API AUJ AQI AUN ACE AUR F9 Kp ASJ G0 xR xH Oa ARO AQH APH ACW ACJ ACM AUK ADI ACA ADP ASN ARH ATX AUC;simp only[CC,CU,List.length_drop,rng2,rng3]
 refine⟨⟨0,rfl,Nat.zero_le _,rfl⟩,λi ⟨hi,hI⟩=>⟨λhlt=>?_,λhge=>?_⟩⟩
 ·have hlt:i<a.k.length:=Int.ofNat_lt.1 hlt
  rw[GH (by omega)]
  simp only[Int.toNat_natCast]
  rw[AHS hlt,CKZ] at hI
  refine⟨⟨by omega,by omega⟩,⟨by omega,by omega,Int.le_refl _⟩,⟨⟨i,0⟩,⟨rfl,rfl,rfl,rfl,λj hj=>bF _ _ _,rfl,rfl⟩,rfl,hlt,Nat.zero_le _,hI⟩,λx ⟨x1,x2,x3,x4⟩=>⟨λhj=>?_,λhj=>?_⟩⟩
  ·have hj:x.j<a.k.length-(x.i+1):=Int.ofNat_lt.1 hj
   have hxi:x.i=i:=by omega
   have e:(IntKind.i64.wrap (IntKind.i64.wrap ((x.i:Int)+x.j)+2))=((x.i+x.j+2:Nat):Int):=by
    rw[Ab (n:=(x.i:Int)+x.j) (by omega) (by omega),Ab (by omega) (by omega)];omega
   rw[AHS (l:=a.k.drop (x.i+1)) (by rw[List.length_drop];omega),List.drop_drop,show x.i+1+(x.j+1)=x.i+x.j+2 by omega,COD] at x4
   refine⟨⟨by omega,by omega⟩,⟨rfl,all2 _ _,⟨h1,by show 2<1073741824;omega⟩,h3⟩,λht=>?_,λht=>?_⟩
   ·rw[ht] at x4
    have ek:bC a=[gD a.k x.i,gD (a.k.drop (x.i+1)) x.j]:=by unfold bC;rw[x4];rfl
    rw[ek];exact⟨rfl,all2 _ _⟩
   ·rw[ht] at x4
    rw[e];simp only[Int.toNat_natCast]
    refine⟨⟨by omega,by omega,Int.le_refl _⟩,⟨⟨x.i,x.j,0⟩,⟨rfl,rfl,rfl,rfl,λ_ _=>rfl,rfl,rfl,rfl,rfl,λj hj=>bF _ _ _,rfl,rfl⟩,x1,x2,rfl,hj,Nat.zero_le _,x4⟩,λy ⟨y1,y2,y3,y4,y5,y6⟩=>⟨λhk=>?_,λhk=>?_⟩⟩
    ·have hk:y.k<a.k.length-(y.i+y.j+2):=Int.ofNat_lt.1 hk
     rw[AHS (l:=a.k.drop (y.i+y.j+2)) (by rw[List.length_drop];omega),CKW] at y6
     refine⟨⟨by omega,by omega⟩,⟨rfl,all3 _ _ _,⟨h1,by show 3<1073741824;omega⟩,h3⟩,λht=>?_,λht=>?_⟩
     ·rw[ht] at y6
      have ek:bC a=[gD a.k y.i,gD (a.k.drop (y.i+1)) y.j,gD (a.k.drop (y.i+y.j+2)) y.k]:=by unfold bC;rw[y6];rfl
      rw[ek];exact⟨rfl,all3 _ _ _⟩
     ·rw[ht] at y6
      exact⟨⟨y.i,y.j,y.k+1⟩,⟨rfl,rfl,rfl,rfl,λ_ _=>rfl,rfl,rfl,rfl,rfl,λ_ _=>rfl,rfl,(GH (by omega)).symm⟩,⟨y1,y2,y3,y4,by show y.k+1<=a.k.length-(y.i+y.j+2);omega,y6⟩,by show a.k.length-(y.i+y.j+2)-(y.k+1)<_;omega⟩
    ·have hk:a.k.length-(y.i+y.j+2)<=y.k:=by omega
     rw[List.drop_of_length_le (l:=a.k.drop (y.i+y.j+2)) (by rw[List.length_drop];omega)] at y6
     refine⟨⟨y.i,y.j+1⟩,⟨rfl,rfl,rfl,rfl,λ_ _=>rfl,rfl,(GH (by omega)).symm⟩,⟨y1,y2,by show y.j+1<=a.k.length-(y.i+1);omega,?_⟩,by show a.k.length-(y.i+1)-(y.j+1)<_;omega⟩
     show _=orO (knt2 a.g (gD a.k y.i) ((a.k.drop (y.i+1)).drop (y.j+1))) _
     rw[List.drop_drop,show y.i+1+(y.j+1)=y.i+y.j+2 by omega];exact y6
  ·have hj:a.k.length-(x.i+1)<=x.j:=by omega
   rw[List.drop_of_length_le (l:=a.k.drop (x.i+1)) (by rw[List.length_drop];omega)] at x4
   exact⟨x.i+1,(GH (by omega)).symm,⟨by omega,x4⟩,by omega⟩
 ·rw[List.drop_of_length_le (by omega)] at hI
  have ek:bC a=[]:=by unfold bC;rw[hI];rfl
  rw[ek];rfl
theorem CQB:AH Try.prog S6 (C_kd.spec dGK):=PU C_kd A_kd [] [] BDJ (λ_=>by kernel_rfl) (λ_=>AA CME AD) (λ(a:GK) h=>by
 obtain⟨⟨h1,h2⟩,h3⟩:(a.g.length<1073741824/\a.k.length<1073741824)/\∀g∈a.g,Ht g:=h
 exact p_kd a h1 h2 h3) (λ_=>RU rfl rfl) _
theorem CFG{a:GPk}(h:0<=a.a/\a.a<=a.b/\a.b<=a.o.length):(aY a).length=a.b.toNat-a.a.toNat:=by
 unfold aY;rw[List.length_drop,List.length_take];omega
theorem CLT{a:GPk}{i:Nat}(h:i<(aY a).length):gD (aY a) i=gD a.o (a.a.toNat+i):=by
 unfold aY at *
 rw[bF]
 rw[List.length_drop,List.length_take] at h
 simp[gD,List.getD_eq_getElem?_getD,List.getElem?_take,show a.a.toNat+i<a.b.toNat by omega]
theorem BFO{a:GPk}{x:Int}(h:x∈aY a):x∈a.o:=List.mem_of_mem_take (List.mem_of_mem_drop h)
theorem p_pk(a:GPk)(h:0<=a.a/\a.a<=a.b/\a.b<=a.o.length/\a.o.length<1073741824)(hx:∀x∈a.o,0<=x/\x<a.g.length):V_pk a:=by
 rw[CQV]<;> delta LI UD KA LV JY NX HU EZ AK AN FI AE BA BN IQ BH CV yB DC ER NC TD KE FD FT MW HA BP GU HR We ZV Cw ANZ mD JW EC L4 M2 gT Ki CS AG AP AI AO AJ AR DF VR AS CM DY HZ BG HC BW DK DI MK JH DO BO GJ VT HD AM AQ JI CL LP JO KC EJ EB MM DR HS CI OS FP EV KB GI NK BC GM AV lX DT ZQ Mz JD AU AL FA Uo FW FK PI ME DV BE RB EG HX jQ HW Eh KL Xi LA UY BX LO HE GQ FG SV MD JE SA SK Bf PY Co TM FB GV Xe FX IC XA LB PC NM TF MU RX Zu Ed YS Lq Bq SP Zb Rc Xt Tm Tc cL Us pC;simp only[CC,CU]
 have hl:=CFG ⟨h.1,h.2.1,h.2.2.1⟩
 have hk:∀{i:Nat},i<(aY a).length->0<=gD (aY a) i/\gD (aY a) i<a.g.length:=λhi=>hx _ (BFO (MF hi))
 have hm:∀i,(((aY a).take i).map λi=>gD a.g i.toNat).length<=(aY a).length:=λi=>by simp;omega
 refine⟨⟨h.1,h.2.1,h.2.2.1⟩,⟨default,hl,λi hi=>CLT hi,by rw[hl]⟩,⟨λhlt=>⟨⟨by omega,by omega⟩,⟨hk (by omega),by omega,by omega,by omega,by omega,by omega⟩,⟨1,[gD a.g (gD (aY a) 0).toNat]⟩,⟨rfl,rfl,rfl,λi hi=>?_⟩,⟨by show 0<1;omega,by show 1<=_;omega,?_⟩,by show (aY a).length-1<_;omega⟩,λhge=>?_⟩,λx ⟨x1,x2,x3⟩=>⟨λhlt=>⟨⟨by omega,by omega⟩,⟨hk (by omega),by omega,λh=>(by cases h),?_,?_⟩,⟨x.i+1,x.l ++ [gD a.g (gD (aY a) x.i).toNat]⟩,⟨by simp,(GH (by omega)).symm,by simp,BNF _ _⟩,⟨by show 0<x.i+1;omega,by show x.i+1<=_;omega,?_⟩,by show (aY a).length-(x.i+1)<_;omega⟩,λhge=>?_⟩⟩
 ·have hi:i<1:=hi
  rw[show i=0 by omega];exact⟨rfl,rfl,rfl⟩
 ·show [gD a.g (gD (aY a) 0).toNat]=((aY a).take 1).map _
  rw[VP (by omega:0<(aY a).length)];rfl
 ·unfold pkM;rw[List.length_map];omega
 ·have:=hm x.i;rw[<-x3] at this;omega
 ·have:=hm x.i;rw[<-x3] at this;omega
 ·show x.l ++ _=((aY a).take (x.i+1)).map _
  rw[VP (by omega:x.i<(aY a).length),List.map_append,x3];rfl
 ·have:x.l=pkM a:=by rw[x3,List.take_of_length_le (by omega)];rfl
  rw[this];exact⟨rfl,Nat.le_refl _,λ_ _=>⟨rfl,rfl,rfl⟩⟩
theorem CTH:AH Try.prog R3 (C_pk.spec dGPk):=PU C_pk A_pk [] [201] AZY (λ_=>by kernel_rfl) (λ_=>AD) (λ(a:GPk) h=>by
 obtain⟨h1,h2⟩:(0<=a.a/\a.a<=a.b/\a.b<=a.o.length/\a.o.length<1073741824)/\∀x∈a.o,0<=x/\x<a.g.length:=h
 exact p_pk a h1 h2) (λ_=>RU rfl rfl) _
end Go.Bal
