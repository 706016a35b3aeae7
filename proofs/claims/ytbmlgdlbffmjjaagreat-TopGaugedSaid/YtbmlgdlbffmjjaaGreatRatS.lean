/- Package rating: what ties; gaugings that are picked. -/
import Derived.Test.YtbmlgdlbffmjjaaGreatRatR
set_option linter.unusedVariables false
set_option linter.unusedSimpArgs false
namespace Go.Bal
open Go Go.Sym Go.Proofs
def ABL(a:GK):Bool:=bif (nmM a).2 then !(NX (nmM a).1).2 else false
def dKt:List AVal->Heap->Option (GK×List (Nat×Nat)×List Nat)
 |[x,.bptr id _],H=>match F6 x H,H id with
  |some (m,e),.live (.box [.d (.list _ n h _)])=>some (⟨VZ n λi=>gH (h i),m⟩,[(100,id)],e)
  |_,_=>none
 |_,_=>none
def C_kt1:Ctr:={ ro:=[100],α:=GK,xs:=λa=>[.d (II a.k),.bptr 100 0],L:=λa=>[(100,bxG a.g)],val:=λa=>.bool (ABL a),keep:=λa=>[(100,.live (bxG a.g))],pre:=λa=>[(a.g.length<1073741824/\a.k.length<1073741824)/\∀g∈a.g,Ho g] }
def CKC:Ann:={ ann 17 [(AUS,C_named.spec dGK),(G9,C_isKnot.spec dGsK)] with E:=[100] }
def CJB(a:GK):Prop:=AX Try.prog CKC zQ (AF zQ) (C_kt1.xs a) (AC (C_kt1.L a)) (C_kt1.val a) (C_kt1.keep a) [] []
abbrev pY a b:=GK.mk (sH a) (EL (RQ b))
attribute [go_sem] pY
theorem CLF(a:GK):(CJB a)=(AI (AV (CN (YY a)) (CV (YY a)) (HI (RQ a)) (GQ (RQ a)) (UA (sH a)) (Bc (JO (RQ a)))) (FV (AFJ (nmM (pY a a))) (AQ (CN (gF (pY a a))) (CV (gF (pY a a))) (Zs (gF (pY a a))) (SX (λi=>RA i (BB (gF (pY a a))) i i i i)))) (HX (ABL a) (AFJ (nmM (pY a a))) (not (Es (BB (gF (pY a a)))))) (BW (YY a)) (BX (YY a))):=by kernel_rfl
def knt3(g:List Gau)(a b:Int):List Int->Option (List Int)
 |[]=>none
 |c :: cs=>bif ABL ⟨g,[a,b,c]⟩ then some [a,b,c] else knt3 g a b cs
def orO(x y:Option (List Int)):Option (List Int):=match x with
 |some z=>some z
 |none=>y
def knt2(g:List Gau)(a:Int):List Int->Option (List Int)
 |[]=>none
 |b :: cs=>bif ABL ⟨g,[a,b]⟩ then some [a,b] else orO (knt3 g a b cs) (knt2 g a cs)
def xV(g:List Gau):List Int->Option (List Int)
 |[]=>none
 |a :: bs=>orO (knt2 g a bs) (xV g bs)
def bH(a:GK):List Int:=(xV a.g a.k).getD []
structure IJK where
 i:Nat
 j:Nat
 k:Nat
 deriving Inhabited
structure IJ2 where
 i:Nat
 j:Nat
 deriving Inhabited
def kdS(a:GK)(i:Nat):List (Nat×AVal):=[(1,.d (II a.k)),(5,.fn (.func oK) [] [.bptr 1000 0]),(13,.d (II a.k)),(14,.int a.k.length),(15,.int i)]
def kdT(a:GK)(i j:Nat):List (Nat×AVal):=kdS a i ++ [(6,.int i),(7,.int (gD a.k i)),(23,.d (II (a.k.drop (i+1)))),(24,.int (a.k.drop (i+1)).length),(25,.int j)]
def kdH(a:GK):List (Nat×HCell):=[(1000,.live (bxG a.g))]
def kd3(a:GK):Shape:={ α:=Nat,dflt:=0,T:=λi=>⟨kdS a i,kdH a⟩,inv:=λi=>i<=a.k.length/\xV a.g a.k=xV a.g (a.k.drop i),meas:=λi=>a.k.length-i }
def kd6(a:GK)(m:Nat):Shape:={ α:=IJ2,dflt:=default,T:=λx=>⟨kdT a x.i x.j,kdH a⟩,inv:=λx=>a.k.length-x.i=m/\x.i<a.k.length/\x.j<=(a.k.drop (x.i+1)).length/\xV a.g a.k=orO (knt2 a.g (gD a.k x.i) ((a.k.drop (x.i+1)).drop x.j)) (xV a.g (a.k.drop (x.i+1))),meas:=λx=>(a.k.drop (x.i+1)).length-x.j }
def kd11(a:GK)(m q:Nat):Shape:={ α:=IJK,dflt:=default,T:=λx=>⟨kdT a x.i x.j ++ [(9,.int (gD (a.k.drop (x.i+1)) x.j)),(43,.d (II (a.k.drop (x.i+x.j+2)))),(44,.int (a.k.drop (x.i+x.j+2)).length),(45,.int x.k)],kdH a⟩,inv:=λx=>a.k.length-x.i=m/\x.i<a.k.length/\(a.k.drop (x.i+1)).length-x.j=q/\x.j<(a.k.drop (x.i+1)).length/\x.k<=(a.k.drop (x.i+x.j+2)).length/\xV a.g a.k=orO (orO (knt3 a.g (gD a.k x.i) (gD (a.k.drop (x.i+1)) x.j) ((a.k.drop (x.i+x.j+2)).drop x.k)) (knt2 a.g (gD a.k x.i) (a.k.drop (x.i+x.j+2)))) (xV a.g (a.k.drop (x.i+1))),meas:=λx=>(a.k.drop (x.i+x.j+2)).length-x.k }
def C_kd:Ctr:={ α:=GK,xs:=xGK,L:=λ_=>[],val:=λa=>.d (II (bH a)),keep:=λ_=>[],pre:=λa=>[(a.g.length<1073741824/\a.k.length<1073741824)/\∀g∈a.g,Ho g] }
def A_kd(a:GK):Ann:={ ann 62 [(oK,C_kt1.spec dKt)] with md:=λid=>if id=8 then some (λk=>if k=3 then 4 else 0) else if id=9 then some (λk=>if k=2 then 4 else 0) else if id=13 then some (λk=>if k=4 then 4 else 0) else if id=14 then some (λk=>if k=3 then 4 else 0) else none,loops:=λid=>if id=3 then some [kd3 a] else none,inner:=λgs id=>if id=6 then some [kd6 a (gs.getD 0 0)] else if id=11 then some [kd11 a (gs.getD 1 0) (gs.getD 0 0)] else none }
def V_kd(a:GK):Prop:=AX Try.prog (A_kd a) Y5 (AF Y5) (xGK a) (AC []) (C_kd.val a) [] [] []
abbrev Tf(a:GK):Prop:=a.k.length=a.k.length
abbrev Ss(a:GK):Prop:=∀(i:Nat),i<a.k.length->gD a.k i=gD a.k i
abbrev yU(a:GK):Prop:=(↑a.k.length:Int)=(↑a.k.length:Int)
abbrev D6(a:GK):Prop:=a.g.length=a.g.length/\∀(i:Nat),i<a.g.length->(gD a.g i).st=(gD a.g i).st/\(gD a.g i).lo=(gD a.g i).lo/\(gD a.g i).hi=(gD a.g i).hi
abbrev AUF(a:Nat)(a1:GK):Prop:=a<=a1.k.length/\xV a1.g a1.k=xV a1.g (List.drop a a1.k)
abbrev AZU(a:Nat)(a1:GK):Prop:=(↑a:Int)<(↑a1.k.length:Int)
abbrev AUC(a:Nat):Int:=IntKind.i64.wrap ((↑a:Int)+1)
abbrev BDP(a:GK):Prop:=(↑a.k.length:Int)<=(↑a.k.length:Int)
abbrev BBN(a:IJ2)(a1:Nat):Prop:=(↑a.i:Int)=(↑a1:Int)
abbrev X7(a:IJ2)(a1:GK):List Int:=List.drop (a.i+1) a1.k
abbrev Qv(a:IJ2)(a1:GK):Nat:=(X7 a a1).length
abbrev AOS(a:Nat):Nat:=(AUC a).toNat
abbrev ARB(a:GK)(a1:Nat):Nat:=a.k.length-AOS a1
abbrev ARQ(i:Nat)(a:IJ2)(a1:GK):Prop:=i<Qv a a1
abbrev ADN(a:IJ2)(a1:GK)(i:Nat):Int:=gD (X7 a a1) i
abbrev G8(a:GK)(a1:Nat):Nat:=a.k.length-a1
abbrev ADI(a:GK)(a1:IJ2)(a2:Nat):Prop:=a.k.length-a1.i=G8 a a2/\a1.i<a.k.length/\a1.j<=Qv a1 a/\xV a.g a.k=orO (knt2 a.g (gD a.k a1.i) (List.drop a1.j (X7 a1 a))) (xV a.g
 (X7 a1 a))
abbrev AUL(a:IJ2)(a1:GK):Prop:=(↑a.j:Int)<(↑(Qv a a1):Int)
abbrev APY(i:Nat):Bool:=decide (i=0)
abbrev AUN(a:IJ2)(a1:GK):Int:=gD (X7 a a1) a.j
abbrev ACV(i:Nat)(a:GK)(a1:IJ2):Int:=bif APY i then gD a.k a1.i else AUN a1 a
abbrev ACZ(a:GK)(a1:IJ2):List Int:=VZ 2 λ(i:Nat)=>ACV i a a1
abbrev ACG(a:GK)(a1:IJ2):Nat:=(ACZ a a1).length
abbrev wS(a:GK):List Gau:=VZ a.g.length λ(i:Nat)=>gD a.g i
abbrev M9(a:GK):Nat:=(wS a).length
abbrev AOX(a:GK):Prop:=M9 a=a.g.length
abbrev ABZ(a:GK)(i:Nat):Gau:=gD (wS a) i
abbrev ATR(a:GK)(i:Nat):Int:=(ABZ a i).st
abbrev ASG(a:GK)(i:Nat):Int:=(ABZ a i).lo
abbrev ARP(a:GK)(i:Nat):Int:=(ABZ a i).hi
abbrev APH(a:GK):Prop:=∀(i:Nat),i<M9 a->ATR a i=(gD a.g i).st/\ASG a i=(gD a.g i).lo/\ARP a i=(gD a.g i).hi
abbrev ATW(a:GK):Prop:=a.g.length=M9 a
abbrev AQN(a:GK):Prop:=∀(i:Nat),i<a.g.length->(gD a.g i).st=ATR a i/\(gD a.g i).lo=ASG a i/\(gD a.g i).hi=ARP a i
abbrev APO(a:GK):Prop:=M9 a<1073741824
abbrev AOQ(a:GK):Prop:=∀(g:Gau),List.Mem g (wS a)->0<=g.st/\g.st<=2000/\0<=g.lo/\g.lo<=g.hi/\g.hi<=200000
abbrev ADK(a:IJ2):Int:=IntKind.i64.wrap (IntKind.i64.wrap ((↑a.i:Int)+(↑a.j:Int))+2)
abbrev ASS(a:IJK)(a1:IJ2):Prop:=(↑a.i:Int)=(↑a1.i:Int)
abbrev F9(a:IJK)(a1:GK):List Int:=List.drop (a.i+1) a1.k
abbrev Ko(a:IJK)(a1:GK):Nat:=(F9 a a1).length
abbrev ATU(i:Nat)(a:IJK)(a1:GK):Prop:=i<Ko a a1
abbrev K5(a:IJK)(a1:GK)(i:Nat):Int:=gD (F9 a a1) i
abbrev wU(a:IJK)(a1:GK):Int:=gD (F9 a a1) a.j
abbrev xB(a:IJK)(a1:GK):List Int:=List.drop (a.i+a.j+2) a1.k
abbrev Qw(a:IJK)(a1:GK):Nat:=(xB a a1).length
abbrev ATV(a:IJ2):Nat:=(ADK a).toNat
abbrev AUO(a:GK)(a1:IJ2):Nat:=a.k.length-ATV a1
abbrev AUH(i:Nat)(a:IJK)(a1:GK):Prop:=i<Qw a a1
abbrev ACK(a:IJK)(a1:GK)(i:Nat):Int:=gD (xB a a1) i
abbrev ADH(a:IJ2)(a1:GK):Nat:=Qv a a1-a.j
abbrev ACP(a:GK)(a1:IJK)(a2:Nat)(a3:IJ2):Prop:=a.k.length-a1.i=G8 a a2/\a1.i<a.k.length/\Ko a1 a-a1.j=ADH a3 a/\a1.j<Ko a1 a/\a1.k<=Qw a1 a/\xV a.g a.k =
 orO (orO (knt3 a.g (gD a.k a1.i) (wU a1 a) (List.drop a1.k (xB a1 a))) (knt2 a.g (gD a.k a1.i) (xB a1 a))) (xV a.g (F9 a1 a))
abbrev ARE(a:IJK)(a1:GK):Prop:=(↑a.k:Int)<(↑(Qw a a1):Int)
abbrev ACL(i:Nat)(a:GK)(a1:IJK):Int:=bif APY i then gD a.k a1.i else bif decide (i-1=0) then wU a1 a else gD (xB a1 a) a1.k
abbrev ADB(a:GK)(a1:IJK):List Int:=VZ 3 λ(i:Nat)=>ACL i a a1
abbrev ACM(a:GK)(a1:IJK):Nat:=(ADB a a1).length
abbrev ATI(a:IJK)(a1:IJK):Prop:=(↑a.i:Int)=(↑a1.i:Int)
abbrev ARG(a:IJK)(a1:GK):Nat:=Qw a a1-a.k
abbrev AUX(a:IJ2)(a1:IJK):Prop:=(↑a.i:Int)=(↑a1.i:Int)
abbrev AOW(a:GK):Prop:=(bH a).length=0
theorem CTD(a:GK):(V_kd a)=((∃(a_1:Nat),(Tf a/\Ss a/\Tf a/\Ss a/\yU a/\(↑a_1:Int)=0/\D6 a)/\AUF a_1 a)/\∀(a_1:Nat),AUF a_1 a->bif decide (AZU a_1 a) then (0
 <= (↑a_1:Int)/\AZU a_1 a)/\(0<=AUC a_1/\AUC a_1<=(↑a.k.length:Int)/\BDP a)/\(∃(a_3:IJ2),(Tf a/\Ss a/\Tf a/\Ss a/\yU a/\BBN a_3 a_1/\BBN a_3 a_1/\gD a.k a_3.i =
 gD a.k a_1/\Qv a_3 a=ARB a a_1/\(∀(i:Nat),ARQ i a_3 a->ADN a_3 a i=gD a.k (AOS a_1+i))/\(↑(Qv a_3 a):Int)=(↑(ARB a a_1):Int)/\(↑a_3.j:Int)=0/\D6 a)/\ADI a
 a_3 a_1)/\∀(a_3:IJ2),ADI a a_3 a_1->bif decide (AUL a_3 a) then (0<=(↑a_3.j:Int)/\AUL a_3 a)/\(ACG a a_3=2/\(∀(i:Nat),i<ACG a a_3->gD (ACZ a a_3) i=ACV i a a_3) /\
 AOX a/\APH a/\ATW a/\AQN a/\(APO a/\ACG a a_3<1073741824)/\AOQ a)/\bif ABL (GK.mk (wS a) (ACZ a a_3)) then (bH a).length=2/\∀(i:Nat),i<(bH a).length->gD (bH
 a) i=ACV i a a_3 else (0<=ADK a_3/\ADK a_3<=(↑a.k.length:Int)/\BDP a)/\(∃(a_5:IJK),(Tf a/\Ss a/\Tf a/\Ss a/\yU a/\ASS a_5 a_3/\ASS a_5 a_3/\gD a.k a_5.i=gD
 a.k a_3.i/\Ko a_5 a=Qv a_3 a/\(∀(i:Nat),ATU i a_5 a->K5 a_5 a i=ADN a_3 a i)/\(↑(Ko a_5 a):Int)=(↑(Qv a_3 a):Int)/\(↑a_5.j:Int)=(↑a_3.j:Int)/\wU a_5 a =
 AUN a_3 a/\Qw a_5 a=AUO a a_3/\(∀(i:Nat),AUH i a_5 a->ACK a_5 a i=gD a.k (ATV a_3+i))/\(↑(Qw a_5 a):Int)=(↑(AUO a a_3):Int)/\(↑a_5.k:Int)=0/\D6 a)/\ACP
 a a_5 a_1 a_3)/\∀(a_5:IJK),ACP a a_5 a_1 a_3->bif decide (ARE a_5 a) then (0<=(↑a_5.k:Int)/\ARE a_5 a)/\(ACM a a_5=3/\(∀(i:Nat),i<ACM a a_5->gD (ADB a a_5) i=ACL i a
 a_5)/\AOX a/\APH a/\ATW a/\AQN a/\(APO a/\ACM a a_5<1073741824)/\AOQ a)/\bif ABL (GK.mk (wS a) (ADB a a_5)) then (bH a).length=3/\∀(i:Nat),i<(bH a).length ->
 gD (bH a) i=ACL i a a_5 else ∃(a_7:IJK),(Tf a/\Ss a/\Tf a/\Ss a/\yU a/\ATI a_7 a_5/\ATI a_7 a_5/\gD a.k a_7.i=gD a.k a_5.i/\Ko a_7 a=Ko a_5 a/\(∀(i:Nat),
 ATU i a_7 a->K5 a_7 a i=K5 a_5 a i)/\(↑(Ko a_7 a):Int)=(↑(Ko a_5 a):Int)/\(↑a_7.j:Int)=(↑a_5.j:Int)/\wU a_7 a=wU a_5 a/\Qw a_7 a=Qw a_5 a/\(∀(i:Nat),
 AUH i a_7 a->ACK a_7 a i=ACK a_5 a i)/\(↑(Qw a_7 a):Int)=(↑(Qw a_5 a):Int)/\(↑a_7.k:Int)=IntKind.i64.wrap ((↑a_5.k:Int)+1)/\D6 a)/\ACP a a_7 a_1 a_3/\ARG a_7 a <
 ARG a_5 a else ∃(a_7:IJ2),(Tf a/\Ss a/\Tf a/\Ss a/\yU a/\AUX a_7 a_5/\AUX a_7 a_5/\gD a.k a_7.i=gD a.k a_5.i/\Qv a_7 a=Ko a_5 a/\(∀(i:Nat),ARQ i a_7 a ->
 ADN a_7 a i=K5 a_5 a i)/\(↑(Qv a_7 a):Int)=(↑(Ko a_5 a):Int)/\(↑a_7.j:Int)=IntKind.i64.wrap ((↑a_5.j:Int)+1)/\D6 a)/\ADI a a_7 a_1/\ADH a_7 a<ADH a_3 a else ∃
 (a_5:Nat),(Tf a/\Ss a/\Tf a/\Ss a/\yU a/\(↑a_5:Int)=IntKind.i64.wrap ((↑a_3.i:Int)+1)/\D6 a)/\AUF a_5 a/\G8 a a_5<G8 a a_1 else AOW a/\AOW a):=by
 kernel_rfl
structure GPk where
 g:List Gau
 o:List Int
 a:Int
 b:Int
def dGPk:List AVal->Heap->Option (GPk×List (Nat×Nat)×List Nat)
 |[.d x,.d y,.bptr c _,.bptr id _],H=>match H id,H c with
  | .live (.box [.d (.list _ n h _)]),.live (.box [.d (.list _ m r _)])=>some (⟨VZ n λi=>gH (h i),VZ m λi=>LO (r i),LO x,LO y⟩,[(100,id),(101,c)],[])
  |_,_=>none
 |_,_=>none
def aS(a:GPk):List Int:=(a.o.take a.b.toNat).drop a.a.toNat
def pkM(a:GPk):List Gau:=(aS a).map λi=>gD a.g i.toNat
def pkH(a:GPk):List (Nat×HCell):=[(101,.live (.box [.d (II a.o)])),(100,.live (bxG a.g))]
def pk3n(a:GPk):Shape:={ α:=One,dflt:=default,T:=λ_=>⟨[(3,.bptr 100 0),(7,.d gK),(13,.d (II (aS a))),(14,.int (aS a).length),(15,.int 0)],pkH a⟩,inv:=λ_=>True,meas:=λ_=>(aS a).length+1 }
def pk3o(a:GPk):Shape:={ α:=GsK,dflt:=default,T:=λx=>⟨[(3,.bptr 100 0),(7,.own 201 3 0 x.l.length),(13,.d (II (aS a))),(14,.int (aS a).length),(15,.int x.i)],pkH a ++ [(201,.live (rowG x.l))]⟩,inv:=λx=>1<=x.i/\x.i<=(aS a).length/\x.l=((aS a).take x.i).map λi=>gD a.g i.toNat,meas:=λx=>(aS a).length-x.i,again:=[(201,6096)] }
def C_pk:Ctr:={ ro:=[100,101],α:=GPk,xs:=λa=>[.int a.a,.int a.b,.bptr 101 0,.bptr 100 0],L:=λa=>[(101,.box [.d (II a.o)]),(100,bxG a.g)],val:=λa=>.d (KB (pkM a)),keep:=pkH,pre:=λa=>[(0<=a.a/\a.a<=a.b/\a.b<=a.o.length/\a.o.length<1073741824)/\∀x∈a.o,0<=x/\x<a.g.length] }
def A_pk(a:GPk):Ann:={ ann 28 [] with E:=[101,100],mt:=λid=>id==5,loops:=λid=>if id=3 then some [pk3n a,pk3o a] else none }
def V_pk(a:GPk):Prop:=AX Try.prog (A_pk a) P7 (AF P7) (C_pk.xs a) (AC (C_pk.L a)) (C_pk.val a) (C_pk.keep a) [] [201]
abbrev gW:=GPk.o
abbrev Kd:=GPk.g
abbrev Xp a:=FI (aS a)
attribute [go_sem] gW Kd Xp
theorem CTN(a:GPk):(V_pk a)=(AQ (AG (BF (GPk.a a)) (DC (GPk.a a) (GPk.b a)) (DC (GPk.b a) (YP (gW a)))) (NF (KU (EX SH (GM (aS a) (KJ (MW (GPk.b a)) (MW (GPk.a a)))) (AE (λi=>HA i (aS a) (NQ (aS a) i (gW a) (iI (GPk.a a) i)))) (BC (Xp a) (KJ (MW (GPk.b a)) (MW (GPk.a a)))) AL (HT (gW a)) (λi=>OV i (gW a)) (BW (Kd a)) (BX (Kd a))))) (Ac (λi=>MI FW (NL 0 (YP (aS a))) (AG (HW (Xp a)) (AV (TT (IR (aS a) 0) (Kd a)) (XD 3) (VF 3) GO (Mb 9223372036854775807) (LS 24)) (mL (λj=>SG (SU (Qy j 1) (HT (aS a)) (EX (λk=>OV k (aS a)) (PH (aS a)) (JA (EC j) 0) (HT (gW a)) (EF (gW a)) (BW (Kd a)) (λk=>MG k (Kd a)) (Qy j 1) (AE (λk=>Yx k (JQ j) (Kd a) (MW (Zj (aS a) 0)))))) (FD (pZ j) (EC j) (Xp a) (Eo j (F8 (λk=>GU (Kd a) (MW k)) (xY (EC j) (aS a))))) (Xp a) (EC j) (CL (Xp a))))) (AV (Vh (pkM a)) (Vh (pkM a)) (HT (gW a)) (EF (gW a)) (BW (Kd a)) (BX (Kd a))))) (N7 (λi=>MQ (FD (pZ i) (EC i) (Xp a) (Eo i (F8 (λj=>GU (Kd a) (MW j)) (xY (EC i) (aS a))))) (EC i) (Xp a) (AG (BE (EC i) (Xp a)) (AV (TT (fF (aS a) i) (Kd a)) (And (BW (JQ i)) (JG 0 (JQ i) FQ)) (VF 3) JE (CW (Ww i) 9223372036854775807) (LS (RX (Ya i) 24))) (mL (λj=>EY (SU (Qy j (Ww i)) (HT (aS a)) (EX (λk=>OV k (aS a)) (PH (aS a)) (AU (EC j) (EC i)) (HT (gW a)) (EF (gW a)) (BW (Kd a)) (λk=>MG k (Kd a)) (Qy j (Ww i)) (AE (λk=>DZ k (JQ j) (So k i (DW (JQ i) k) (Aq (Kd a) (fF (aS a) i))) (So k i (DK (JQ i) k) (DK (Kd a) (MW (fF (aS a) i)))) (So k i (DF (JQ i) k) (DF (Kd a) (MW (fF (aS a) i)))))))) (FD (pZ j) (EC j) (Xp a) (Eo j (F8 (λk=>GU (Kd a) (MW k)) (xY (EC j) (aS a))))) (Xp a) (EC j) (EC i)))) (FJ (Tc (pkM a) i) (HH (AP (Ya i)) (JQ i)) (AE (λj=>Yx j (pkM a) (JQ i) (AP j))) (HT (gW a)) (EF (gW a)) (BW (Kd a)) (BX (Kd a)))))):=by kernel_rfl
theorem CLA:AH Try.prog oK (C_kt1.spec dKt):=PU C_kt1 (λ_=>CKC) [] [] AZF (λ_=>by kernel_rfl) (λ_=>AA BYC (AA ANJ AD)) (λ(a:GK) h=>by
 show CJB a;rw[CLF]<;> delta LI Wo UD KA LX JZ HU AK AN FI AE BA BM IR DC Ff BP GU SX RQ YY AFJ AG AI AO AJ AR VY QG CM EL BB DW HY BF HB BW DF MM JG DK VT HA AQ JH JK KD ML CI OT GI NQ GM AV RO Ab BK IY HJ FV RB HZ MG DZ BZ UC KH EH BR BU OC Bf BX UZ Ch XB CN CV JO HI HX GQ UA Es Bc sH RA gF Zs pY;simp only[CC,CU]
 obtain⟨⟨h1,h2⟩,h3⟩:(a.g.length<1073741824/\a.k.length<1073741824)/\∀g∈a.g,Ho g:=h
 exact⟨⟨h1,h2⟩,λ_=>CND h3 h1,rfl⟩) (λ_=>RR rfl rfl) _
theorem AEZ{l:List Int}{i:Nat}(h:i<l.length):l.drop i=gD l i :: l.drop (i+1):=by
 rw[List.drop_eq_getElem_cons h];simp[gD,List.getD_eq_getElem?_getD,h]
theorem bD(l:List Int)(i j:Nat):gD (l.drop i) j=gD l (i+j):=by
 simp[gD,List.getD_eq_getElem?_getD]
theorem rng2(a b:Int):(VZ 2 λi=>bif decide (i=0) then a else b)=[a,b]:=rfl
theorem rng3(a b c:Int):(VZ 3 λi=>bif decide (i=0) then a else bif decide (i-1=0) then b else c)=[a,b,c]:=rfl
theorem all2(a b:Int):∀i,i<2->gD [a,b] i=bif decide (i=0) then a else b:=λi hi=>by
 match i,hi with
 |0,_=>rfl
 |1,_=>rfl
theorem all3(a b c:Int):∀i,i<3->gD [a,b,c] i=bif decide (i=0) then a else bif decide (i-1=0) then b else c:=λi hi=>by
 match i,hi with
 |0,_=>rfl
 |1,_=>rfl
 |2,_=>rfl
theorem CNP(g:List Gau)(a:Int)(bs:List Int):xV g (a :: bs)=orO (knt2 g a bs) (xV g bs):=rfl
theorem CNH(g:List Gau)(a b:Int)(cs:List Int):knt2 g a (b :: cs)=bif ABL ⟨g,[a,b]⟩ then some [a,b] else orO (knt3 g a b cs) (knt2 g a cs):=rfl
theorem CMS(g:List Gau)(a b c:Int)(cs:List Int):knt3 g a b (c :: cs)=bif ABL ⟨g,[a,b,c]⟩ then some [a,b,c] else knt3 g a b cs:=rfl
theorem p_kd(a:GK)(h1:a.g.length<1073741824)(h2:a.k.length<1073741824)(h3:∀g∈a.g,Ho g):V_kd a:=by
 rw[CTD];delta Tf Ss yU D6 AUF AZU AUC BDP BBN X7 Qv AOS ARB ARQ ADN G8 ADI AUL APY AUN ACV ACZ ACG wS M9 AOX ABZ ATR ASG ARP APH ATW AQN APO AOQ ADK ASS F9 Ko ATU K5 wU xB Qw ATV AUO AUH ACK ADH ACP ARE ACL ADB ACM ATI ARG AUX AOW;simp only[CC,CU,List.length_drop,rng2,rng3]
 refine⟨⟨0,rfl,Nat.zero_le _,rfl⟩,λi ⟨hi,hI⟩=>⟨λhlt=>?_,λhge=>?_⟩⟩
 ·have hlt:i<a.k.length:=Int.ofNat_lt.1 hlt
  rw[GJ (by omega)]
  simp only[Int.toNat_natCast]
  rw[AEZ hlt,CNP] at hI
  refine⟨⟨by omega,by omega⟩,⟨by omega,by omega,Int.le_refl _⟩,⟨⟨i,0⟩,⟨rfl,rfl,rfl,rfl,λj hj=>bD _ _ _,rfl,rfl⟩,rfl,hlt,Nat.zero_le _,hI⟩,λx ⟨x1,x2,x3,x4⟩=>⟨λhj=>?_,λhj=>?_⟩⟩
  ·have hj:x.j<a.k.length-(x.i+1):=Int.ofNat_lt.1 hj
   have hxi:x.i=i:=by omega
   have e:(IntKind.i64.wrap (IntKind.i64.wrap ((x.i:Int)+x.j)+2))=((x.i+x.j+2:Nat):Int):=by
    rw[ZW (n:=(x.i:Int)+x.j) (by omega) (by omega),ZW (by omega) (by omega)];omega
   rw[AEZ (l:=a.k.drop (x.i+1)) (by rw[List.length_drop];omega),List.drop_drop,show x.i+1+(x.j+1)=x.i+x.j+2 by omega,CNH] at x4
   refine⟨⟨by omega,by omega⟩,⟨rfl,all2 _ _,⟨h1,by show 2<1073741824;omega⟩,h3⟩,λht=>?_,λht=>?_⟩
   ·rw[ht] at x4
    have ek:bH a=[gD a.k x.i,gD (a.k.drop (x.i+1)) x.j]:=by unfold bH;rw[x4];rfl
    rw[ek];exact⟨rfl,all2 _ _⟩
   ·rw[ht] at x4
    rw[e];simp only[Int.toNat_natCast]
    refine⟨⟨by omega,by omega,Int.le_refl _⟩,⟨⟨x.i,x.j,0⟩,⟨rfl,rfl,rfl,rfl,λ_ _=>rfl,rfl,rfl,rfl,rfl,λj hj=>bD _ _ _,rfl,rfl⟩,x1,x2,rfl,hj,Nat.zero_le _,x4⟩,λy ⟨y1,y2,y3,y4,y5,y6⟩=>⟨λhk=>?_,λhk=>?_⟩⟩
    ·have hk:y.k<a.k.length-(y.i+y.j+2):=Int.ofNat_lt.1 hk
     rw[AEZ (l:=a.k.drop (y.i+y.j+2)) (by rw[List.length_drop];omega),CMS] at y6
     refine⟨⟨by omega,by omega⟩,⟨rfl,all3 _ _ _,⟨h1,by show 3<1073741824;omega⟩,h3⟩,λht=>?_,λht=>?_⟩
     ·rw[ht] at y6
      have ek:bH a=[gD a.k y.i,gD (a.k.drop (y.i+1)) y.j,gD (a.k.drop (y.i+y.j+2)) y.k]:=by unfold bH;rw[y6];rfl
      rw[ek];exact⟨rfl,all3 _ _ _⟩
     ·rw[ht] at y6
      exact⟨⟨y.i,y.j,y.k+1⟩,⟨rfl,rfl,rfl,rfl,λ_ _=>rfl,rfl,rfl,rfl,rfl,λ_ _=>rfl,rfl,(GJ (by omega)).symm⟩,⟨y1,y2,y3,y4,by show y.k+1<=a.k.length-(y.i+y.j+2);omega,y6⟩,by show a.k.length-(y.i+y.j+2)-(y.k+1)<_;omega⟩
    ·have hk:a.k.length-(y.i+y.j+2)<=y.k:=by omega
     rw[List.drop_of_length_le (l:=a.k.drop (y.i+y.j+2)) (by rw[List.length_drop];omega)] at y6
     refine⟨⟨y.i,y.j+1⟩,⟨rfl,rfl,rfl,rfl,λ_ _=>rfl,rfl,(GJ (by omega)).symm⟩,⟨y1,y2,by show y.j+1<=a.k.length-(y.i+1);omega,?_⟩,by show a.k.length-(y.i+1)-(y.j+1)<_;omega⟩
     show _=orO (knt2 a.g (gD a.k y.i) ((a.k.drop (y.i+1)).drop (y.j+1))) _
     rw[List.drop_drop,show y.i+1+(y.j+1)=y.i+y.j+2 by omega];exact y6
  ·have hj:a.k.length-(x.i+1)<=x.j:=by omega
   rw[List.drop_of_length_le (l:=a.k.drop (x.i+1)) (by rw[List.length_drop];omega)] at x4
   exact⟨x.i+1,(GJ (by omega)).symm,⟨by omega,x4⟩,by omega⟩
 ·rw[List.drop_of_length_le (by omega)] at hI
  have ek:bH a=[]:=by unfold bH;rw[hI];rfl
  rw[ek];rfl
theorem CTK:AH Try.prog S5 (C_kd.spec dGK):=PU C_kd A_kd [] [] BDC (λ_=>by kernel_rfl) (λ_=>AA CLA AD) (λ(a:GK) h=>by
 obtain⟨⟨h1,h2⟩,h3⟩:(a.g.length<1073741824/\a.k.length<1073741824)/\∀g∈a.g,Ho g:=h
 exact p_kd a h1 h2 h3) (λ_=>RR rfl rfl) _
theorem CEB{a:GPk}(h:0<=a.a/\a.a<=a.b/\a.b<=a.o.length):(aS a).length=a.b.toNat-a.a.toNat:=by
 unfold aS;rw[List.length_drop,List.length_take];omega
theorem CPT{a:GPk}{i:Nat}(h:i<(aS a).length):gD (aS a) i=gD a.o (a.a.toNat+i):=by
 unfold aS at *
 rw[bD]
 rw[List.length_drop,List.length_take] at h
 simp[gD,List.getD_eq_getElem?_getD,List.getElem?_take,show a.a.toNat+i<a.b.toNat by omega]
theorem BIT{a:GPk}{x:Int}(h:x∈aS a):x∈a.o:=List.mem_of_mem_take (List.mem_of_mem_drop h)
theorem p_pk(a:GPk)(h:0<=a.a/\a.a<=a.b/\a.b<=a.o.length/\a.o.length<1073741824)(hx:∀x∈a.o,0<=x/\x<a.g.length):V_pk a:=by
 rw[CTN]<;> delta LI UD KA LX JZ NL HU FA AK AN FI AE BA BM IR BH CW xY DC ER NE TD KJ FF FW MW HD BP GU HS Wm Ac Df ALW mL JQ EC N7 F8 gW Kd CS AG AP AI AO AJ AR DR VS AS CM DW HY BF HB BW DN DF MM JG DK BO GH VT HA AM AQ JH CL LN JK KD EI EA ML DG HT CI OT FP EV KC GI NQ BC GM AV nE DT Ab Mw JA AU AL EX Sc FV FJ OV MG DZ BE RF EF IA iI IC Ei KH Yx LB VF BX LS HH GW FD SC MI JE SG RX Ay QM Cr TF EY GO Ya FQ HW XD KU PH NF TT MQ SH Zj Eo YP Mb Aq SU Xp Qy Ww Tc Vh fF So pZ;simp only[CC,CU]
 have hl:=CEB ⟨h.1,h.2.1,h.2.2.1⟩
 have hk:∀{i:Nat},i<(aS a).length->0<=gD (aS a) i/\gD (aS a) i<a.g.length:=λhi=>hx _ (BIT (MH hi))
 have hm:∀i,(((aS a).take i).map λi=>gD a.g i.toNat).length<=(aS a).length:=λi=>by simp;omega
 refine⟨⟨h.1,h.2.1,h.2.2.1⟩,⟨default,hl,λi hi=>CPT hi,by rw[hl]⟩,⟨λhlt=>⟨⟨by omega,by omega⟩,⟨hk (by omega),by omega,by omega,by omega,by omega,by omega⟩,⟨1,[gD a.g (gD (aS a) 0).toNat]⟩,⟨rfl,rfl,rfl,λi hi=>?_⟩,⟨by show 0<1;omega,by show 1<=_;omega,?_⟩,by show (aS a).length-1<_;omega⟩,λhge=>?_⟩,λx ⟨x1,x2,x3⟩=>⟨λhlt=>⟨⟨by omega,by omega⟩,⟨hk (by omega),by omega,λh=>(by cases h),?_,?_⟩,⟨x.i+1,x.l ++ [gD a.g (gD (aS a) x.i).toNat]⟩,⟨by simp,(GJ (by omega)).symm,by simp,BOT _ _⟩,⟨by show 0<x.i+1;omega,by show x.i+1<=_;omega,?_⟩,by show (aS a).length-(x.i+1)<_;omega⟩,λhge=>?_⟩⟩
 ·have hi:i<1:=hi
  rw[show i=0 by omega];exact⟨rfl,rfl,rfl⟩
 ·show [gD a.g (gD (aS a) 0).toNat]=((aS a).take 1).map _
  rw[VQ (by omega:0<(aS a).length)];rfl
 ·unfold pkM;rw[List.length_map];omega
 ·have:=hm x.i;rw[<-x3] at this;omega
 ·have:=hm x.i;rw[<-x3] at this;omega
 ·show x.l ++ _=((aS a).take (x.i+1)).map _
  rw[VQ (by omega:x.i<(aS a).length),List.map_append,x3];rfl
 ·have:x.l=pkM a:=by rw[x3,List.take_of_length_le (by omega)];rfl
  rw[this];exact⟨rfl,Nat.le_refl _,λ_ _=>⟨rfl,rfl,rfl⟩⟩
theorem CQI:AH Try.prog W5 (C_pk.spec dGPk):=PU C_pk A_pk [] [201] BCS (λ_=>by kernel_rfl) (λ_=>AD) (λ(a:GPk) h=>by
 obtain⟨h1,h2⟩:(0<=a.a/\a.a<=a.b/\a.b<=a.o.length/\a.o.length<1073741824)/\∀x∈a.o,0<=x/\x<a.g.length:=h
 exact p_pk a h1 h2) (λ_=>RR rfl rfl) _
end Go.Bal
