/- Package chart: charts that are made of numbers, with stops. -/
import Derived.Test.YtceloknnpdonhaaGreatChW
import Derived.Test.YtceloknnpdonhaaGreatRT7
set_option linter.unusedVariables false
set_option linter.unusedSimpArgs false
namespace Go.Bal
open Go Go.Sym Go.Proofs
def CPL(a:MkIQ):Prop:=BG Try.prog (COH true a) CAV (AL CAV) ((G5 true).xs a) (AF ((G5 true).L a)) ((G5 true).val a) ((G5 true).keep a) [] [305]
abbrev AMM:Prop:=(1:Int)=Int.ofNat (1:Nat)
abbrev BIX:Prop:=(12:Int)=Int.ofNat (12:Nat)
abbrev ALN(a:MkIQ):List Int:=KA a.s.bs.length λ(i:Nat)=>gD a.s.bs i
abbrev BEF(a:MkIQ):Nat:=(ALN a).length
abbrev BFM:Prop:=(400:Int)=Int.ofNat (400:Nat)
abbrev BHW(a:MkIQ):StmQ:=StmQ.mk (ALN a) a.s.used a.s.mix
abbrev ALS(a:MkIQ):StmQ:=Ad (BHW a) (1:Int) (12:Int)
abbrev BHG(a:MkIQ):List Int:=(ALS a).bs
abbrev BFQ(a:MkIQ):Nat:=(BHG a).length
abbrev BGK(a:MkIQ)(i:Nat):Int:=gD (BHG a) i
abbrev K3(a:MkIQ):List Int:=KA (BFQ a) λ(i:Nat)=>BGK a i
abbrev AWJ(a:MkIQ):Nat:=(K3 a).length
abbrev nV(a:MkIQ):Int:=(ALS a).used
abbrev R2(a:MkIQ):Int:=(ALS a).mix
abbrev AUG(a:MkIQ):StmQ:=StmQ.mk (K3 a) (nV a) (R2 a)
abbrev I6(a:MkIQ):StmQ:=Ad (AUG a) (-50:Int) (400:Int)
abbrev ASZ(a:MkIQ):List Int:=(I6 a).bs
abbrev AXZ(a:MkIQ):Nat:=(ASZ a).length
abbrev AZK(a:MkIQ)(i:Nat):Int:=gD (ASZ a) i
abbrev P7(a:MkIQ):List Int:=KA (AXZ a) λ(i:Nat)=>AZK a i
abbrev AUP(a:MkIQ):Nat:=(P7 a).length
abbrev nG(a:MkIQ):Int:=(I6 a).used
abbrev F6(a:MkIQ):Int:=(I6 a).mix
abbrev aF:Prop:=(9:Int)=Int.ofNat (9:Nat)
abbrev AQS(a:MkIQ):StmQ:=StmQ.mk (P7 a) (nG a) (F6 a)
abbrev G4(a:MkIQ):StmQ:=BQ (AQS a) (12:Int)
abbrev APP(a:MkIQ):List Int:=(G4 a).bs
abbrev APX(a:MkIQ):Nat:=(APP a).length
abbrev AWP(a:MkIQ)(i:Nat):Int:=gD (APP a) i
abbrev T9(a:MkIQ):List Int:=KA (APX a) λ(i:Nat)=>AWP a i
abbrev AZP(a:MkIQ):Nat:=(T9 a).length
abbrev pP(a:MkIQ):Int:=(G4 a).used
abbrev L8(a:MkIQ):Int:=(G4 a).mix
abbrev BAF(a:MkIQ):StmQ:=StmQ.mk (T9 a) (pP a) (L8 a)
abbrev V2(a:MkIQ):StmQ:=BQ (BAF a) (9:Int)
abbrev AQA(a:MkIQ):List Int:=(V2 a).bs
abbrev AE:Prop:=Int.ofNat (0:Nat)=Int.ofNat (0:Nat)
abbrev AC:Prop:=(0:Nat)=(0:Nat)
abbrev AD:Prop:=∀(i:Nat),i<(0:Nat)->false=false
abbrev D3:Prop:=AC/\AD/\AC/\AD
abbrev K7(a:MkIQ):List Int:=KA (gS4 a.s).bs.length λ(i:Nat)=>gD (gS4 a.s).bs i
abbrev ARC(a:MkIQ):Nat:=(K7 a).length
abbrev AZA(a:MkIQ):StmQ:=StmQ.mk (K7 a) (gS4 a.s).used (gS4 a.s).mix
abbrev I0(a:MkIQ):StmQ:=BQ (AZA a) (6:Int)
abbrev AVB(a:MkIQ):List Int:=(I0 a).bs
abbrev F1(a:MkIQ):List Int:=KA (gS5 a.s).bs.length λ(i:Nat)=>gD (gS5 a.s).bs i
abbrev AYV(a:MkIQ):Nat:=(F1 a).length
abbrev AZR(a:MkIQ):StmQ:=StmQ.mk (F1 a) (gS5 a.s).used (gS5 a.s).mix
abbrev J3(a:MkIQ):StmQ:=BQ (AZR a) (300:Int)
abbrev ARA(a:MkIQ):List Int:=(J3 a).bs
abbrev S7(a:MkIQ):Prop:=AE/\AE/\AE/\AE/\AE/\AC/\AD/\AC/\AD/\AC/\AD/\AC/\AD/\AC /\
 AD/\ZN a.s=ZN a.s/\Ig a.s=Ig a.s/\Lx a.s=Lx a.s/\Ge a.s=Ge a.s/\Ch a.s=Ch a.s/\AC/\AD/\AC/\AD/\AC/\AD/\D3
abbrev M0(a:MkIQ):List Int:=KA (gS6 a.s).bs.length λ(i:Nat)=>gD (gS6 a.s).bs i
abbrev AXI(a:MkIQ):Nat:=(M0 a).length
abbrev AXB(a:MkIQ):StmQ:=StmQ.mk (M0 a) (gS6 a.s).used (gS6 a.s).mix
abbrev L3(a:MkIQ):StmQ:=Ad (AXB a) (1:Int) a.m
abbrev ASB(a:MkIQ):List Int:=(L3 a).bs
abbrev Ry(i:Nat)(a:KS):Prop:=i<a.x.s.bs.length
abbrev AXF(a:KS)(a1:MkIQ):Prop:=(↑a.k:Int)<=a1.m
abbrev K9(a:MkIQ)(a1:KS):Int:=(7:Int)*(a.m-(↑a1.k:Int))
abbrev M4(a:KS)(a1:MkIQ):Prop:=(↑a.x.ms.length:Int)+(↑a.k:Int)<=a1.m
abbrev H3(a:KS):Prop:=a.x.t.length=a.x.ms.length
abbrev R4(a:KS):Prop:=a.x.st.length=a.x.ms.length
abbrev oU(a:KS):Nat:=a.x.z.length+(1:Nat)
abbrev APN(a:KS):Prop:=oU a<=a.x.ms.length
abbrev M8(a:MkIQ)(a1:KS):Prop:=D6 a a1.k a1.x=mS a/\AXF a1 a/\StmBQ ((7:Int)+K9 a a1) a1.x.s/\M4 a1 a/\H3 a1/\R4 a1/\(a1.x.z=[]∨APN a1)
abbrev BAN(a:KS):Prop:=(1:Nat)<=a.k
abbrev ARQ(a:KS):Prop:=a.x.ms=[]/\a.x.z=[]
abbrev ARW(a:MkIQ)(a1:KS):Prop:=M8 a a1/\BAN a1/\ARQ a1
abbrev D7(a:KS):Bool:=decide ((↑a.k:Int)>(0:Int))
abbrev Bf(a:KS)(a1:KS):Prop:=(↑a.k:Int)=(↑a1.k:Int)
abbrev P0(a:KS)(a1:KS):Prop:=a.x.s.bs.length=a1.x.s.bs.length
abbrev V4(a:KS)(a1:KS):Prop:=∀(i:Nat),Ry i a->gD a.x.s.bs i=gD a1.x.s.bs i
abbrev C9(a:KS)(a1:KS):Prop:=a.x.s.used=a1.x.s.used
abbrev H6(a:KS)(a1:KS):Prop:=a.x.s.mix=a1.x.s.mix
abbrev AXW(a:KS):Nat:=a.k-(1:Nat)
abbrev AYI(a:KS)(a1:MkIQ):Prop:=BAN a/\AXF a a1
abbrev pJ(a:MkIQ)(a1:KS):Prop:=D6 a (AXW a1) (addM a a1.x)=mS a/\AYI a1 a/\StmBQ ((11:Int)+K9 a a1) a1.x.s/\M4 a1 a/\H3 a1/\R4 a1/\a1.x.z.length
 <= a1.x.ms.length
abbrev AVP(a:MkIQ)(a1:KS):Prop:=pJ a a1/\(100:Nat)=(100:Nat)/\ARQ a1
abbrev S6(a:KS):List Int:=KA a.x.s.bs.length λ(i:Nat)=>gD a.x.s.bs i
abbrev AQK(a:KS):Nat:=(S6 a).length
abbrev I7(a:KS):Prop:=AQK a=a.x.s.bs.length/\(∀(i:Nat),i<AQK a->gD (S6 a) i=gD a.x.s.bs i)/\a.x.s.used=a.x.s.used/\a.x.s.mix=a.x.s.mix/\(a.x.s.used-(0 :
 Int)).NonNeg
abbrev pF(a:KS):Prop:=(60:Int)=Int.ofNat (60:Nat)/\I7 a
abbrev J4:Prop:=(0:Nat)<(0:Nat)
abbrev L7:Prop:=(1:Nat)<=(1:Nat)
abbrev bA:Prop:=(0:Nat)<(1:Nat)
abbrev AUM:Prop:=(2:Nat)=(2:Nat)
abbrev AVU:Prop:=L7/\(bA->AUM)
abbrev P9:Prop:=true=true->bA
abbrev E3:Prop:=(1:Nat)<=(9223372036854775807:Nat)
abbrev lF:Prop:=(1:Nat)=(1:Nat)
abbrev lP:Prop:=L7/\(bA->lF)
abbrev G9:Prop:=(True/\(J4->(0:Nat)=(1:Nat)))/\lP/\P9/\E3/\(8:Nat)<=(140737488355328:Nat)
abbrev Sy(a:KS):StmQ:=StmQ.mk (S6 a) a.x.s.used a.x.s.mix
abbrev G8(a:KS):Int:=BA (Sy a) (60:Int)
abbrev AZM(a:MkIQ)(a1:KS):Int:=IntKind.i64.wrap (Lx a.s+IntKind.i64.wrap (Ge a.s*G8 a1))
abbrev kM(a:MkIQ)(a1:KS):Int:=IntKind.i64.wrap (AZM a a1-Ch a.s)
abbrev ATE(a:MkIQ)(a1:KS):Prop:=kM a a1=kM a a1
abbrev mX(a:MkIQ)(a1:KS):Int:=IntKind.i64.wrap (AZM a a1+Ch a.s)
abbrev AYA(a:MkIQ)(a1:KS):Prop:=mX a a1=mX a a1
abbrev I4(a:KS):StmQ:=BQ (Sy a) (60:Int)
abbrev AJF(a:KS):List Int:=(I4 a).bs
abbrev AFZ(a:KS):Nat:=(AJF a).length
abbrev AFK(a:KS)(i:Nat):Int:=gD (AJF a) i
abbrev rO(a:KS):List Int:=KA (AFZ a) λ(i:Nat)=>AFK a i
abbrev ABE(a:KS):Nat:=(rO a).length
abbrev ALK(a:KS):Prop:=ABE a=AFZ a
abbrev AAE(a:KS):Prop:=∀(i:Nat),i<ABE a->gD (rO a) i=AFK a i
abbrev fK(a:KS):Int:=(I4 a).used
abbrev ABT(a:KS):Prop:=fK a=fK a
abbrev tF(a:KS):Int:=(I4 a).mix
abbrev AAJ(a:KS):Prop:=tF a=tF a
abbrev AGY(a:KS):Prop:=(0:Int)<=fK a
abbrev sJ(a:KS)(a1:KS):Prop:=(↑a.k:Int)=IntKind.i64.wrap ((↑a1.k:Int)-(1:Int))
abbrev AAA(a:KS):StmQ:=StmQ.mk (rO a) (fK a) (tF a)
abbrev rN(a:KS)(a1:MkIQ):StmQ:=Ad (AAA a) (kM a1 a) (mX a1 a)
abbrev Z3(a:KS)(a1:MkIQ):List Int:=(rN a a1).bs
abbrev rZ(a:KS)(a1:KS)(a2:MkIQ):Prop:=a.x.s.bs.length=(Z3 a1 a2).length
abbrev rX(a:KS)(a1:KS)(a2:MkIQ):Prop:=∀(i:Nat),Ry i a->gD a.x.s.bs i=gD (Z3 a1 a2) i
abbrev rD(a:KS)(a1:KS)(a2:MkIQ):Prop:=a.x.s.used=(rN a1 a2).used
abbrev sQ(a:KS)(a1:KS)(a2:MkIQ):Prop:=a.x.s.mix=(rN a1 a2).mix
abbrev AFJ(a:KS):Prop:=a.x.ms.length=(1:Nat)
abbrev AGO(a:KS):Prop:=a.x.t.length=(1:Nat)
abbrev ALB(a:KS):Prop:=a.x.st.length=(1:Nat)
abbrev AEX(a:KS)(a1:MkIQ):Int:=Js (AAA a) (kM a1 a) (mX a1 a)
abbrev AAR(a:KS):Prop:=(1:Nat)<=a.x.ms.length
abbrev AAH(a:KS):Prop:=AAR a/\a.x.z=[]
abbrev sR(a:MkIQ)(a1:KS):Prop:=M8 a a1/\AAH a1
abbrev Dr(a:KS):Nat:=a.k+(20:Nat)
abbrev rF(a:MkIQ)(a1:KS):Prop:=(mS a).s.bs.length=a1.x.s.bs.length
abbrev rJ(a:MkIQ)(a1:KS):Prop:=∀(i:Nat),i<(mS a).s.bs.length->gD (mS a).s.bs i=gD a1.x.s.bs i
abbrev sL(a:MkIQ)(a1:KS):Prop:=(mS a).s.used=a1.x.s.used
abbrev rC(a:MkIQ)(a1:KS):Prop:=(mS a).s.mix=a1.x.s.mix
abbrev AHX(a:MkIQ):Prop:=(mS a).ms.length=(0:Nat)
abbrev ALI(a:MkIQ):Prop:=(mS a).t.length=(0:Nat)
abbrev AHW(a:MkIQ):Prop:=(mS a).st.length=(0:Nat)
abbrev ALE(a:MkIQ):Prop:=(mS a).z.length=(0:Nat)
abbrev AHP(a:MkIQ):Prop:=ALE a/\ALE a
abbrev TC(a:MkIQ):Prop:=D6 a (0:Nat) (mS a)=mS a/\(↑(0:Nat):Int)<=a.m/\StmBQ ((7:Int)+(7:Int)*(a.m-(↑(0:Nat):Int))) (mS a).s/\(↑(mS a).ms.length:Int)+(↑(0:Nat):Int)<=a.m
 /\ (mS a).t.length=(mS a).ms.length/\(mS a).st.length=(mS a).ms.length/\((mS a).z=[]∨(mS a).z.length+(1:Nat)<=(mS a).ms.length)
abbrev ALF(a:KS):Bool:=decide ((↑a.x.ms.length:Int)>(0:Int))
abbrev AHZ(a:KS):Prop:=AMM/\(30:Int)=Int.ofNat (30:Nat)/\I7 a
abbrev sO(a:KS):Int:=Js (Sy a) (1:Int) (30:Int)
abbrev fV(a:MkIQ)(a1:KS):Int:=IntKind.i64.wrap (ZN a.s*sO a1)
abbrev gF(a:MkIQ)(a1:KS):Int:=IntKind.i64.wrap (Ig a.s*sO a1)
abbrev tX(a:KS):StmQ:=Ad (Sy a) (1:Int) (30:Int)
abbrev AEH(a:KS):List Int:=(tX a).bs
abbrev ABU(a:KS):Nat:=(AEH a).length
abbrev ABZ(a:KS)(i:Nat):Int:=gD (AEH a) i
abbrev tY(a:KS):List Int:=KA (ABU a) λ(i:Nat)=>ABZ a i
abbrev AGU(a:KS):Nat:=(tY a).length
abbrev gC(a:KS):Int:=(tX a).used
abbrev rL(a:KS):Int:=(tX a).mix
abbrev AFM(a:MkIQ)(a1:KS):Prop:=fV a a1=fV a a1/\gF a a1=gF a a1/\AGU a1=ABU a1/\(∀(i:Nat),i<AGU a1->gD (tY a1) i =
 ABZ a1 i)/\gC a1=gC a1/\rL a1=rL a1/\(gC a1-(0:Int)).NonNeg
abbrev AKG(a:KS)(a1:KS):Prop:=a.x.pl=IntKind.i64.wrap (a1.x.pl+sO a1)
abbrev AKU(a:KS):StmQ:=StmQ.mk (tY a) (gC a) (rL a)
abbrev Z8(a:KS)(a1:KS)(a2:MkIQ):Prop:=a.x.tm=IntKind.i64.wrap (a1.x.tm+Js (AKU a1) (fV a2 a1) (gF a2 a1))
abbrev rE(a:KS)(a1:MkIQ):StmQ:=Ad (AKU a) (fV a1 a) (gF a1 a)
abbrev AJO(a:KS)(a1:MkIQ):List Int:=(rE a a1).bs
abbrev AAU(a:KS)(a1:KS)(a2:MkIQ):Prop:=a.x.s.bs.length=(AJO a1 a2).length
abbrev AGH(a:KS)(a1:KS)(a2:MkIQ):Prop:=∀(i:Nat),Ry i a->gD a.x.s.bs i=gD (AJO a1 a2) i
abbrev ADL(a:KS)(a1:KS)(a2:MkIQ):Prop:=a.x.s.used=(rE a1 a2).used
abbrev Z2(a:KS)(a1:KS)(a2:MkIQ):Prop:=a.x.s.mix=(rE a1 a2).mix
abbrev ZZ(a:KS)(a1:KS):Prop:=a.x.ms.length=a1.x.ms.length
abbrev Ag(a:KS)(a1:KS):Prop:=a.x.t.length=a1.x.t.length
abbrev Ah(a:KS)(a1:KS):Prop:=a.x.st.length=a1.x.st.length
abbrev fQ(a:KS)(a1:KS):Prop:=∀(i:Nat),i<a.x.ms.length->(gD a.x.ms i).pl=(gD a1.x.ms i).pl/\(gD a.x.ms i).ht=(gD a1.x.ms i).ht
abbrev fL(a:KS)(a1:KS):Prop:=∀(i:Nat),i<a.x.t.length->gD a.x.t i=gD a1.x.t i
abbrev fW(a:KS)(a1:KS):Prop:=∀(i:Nat),i<a.x.st.length->gD a.x.st i=gD a1.x.st i
abbrev qP(a:MkIQ)(a1:KS)(a2:KS):Prop:=AE/\AE/\AE/\AE/\AE/\AC/\AD/\AC/\AD/\AC/\AD/\AC /\
 AD/\AC/\AD/\ZN a.s=ZN a.s/\Ig a.s=Ig a.s/\Lx a.s=Lx a.s/\Ge a.s=Ge a.s/\Ch a.s=Ch a.s/\AC/\ZZ a1 a2/\AC/\AD/\AC /\
 Ag a1 a2/\AC/\Ah a1 a2/\AC/\AD/\ZZ a1 a2/\fQ a1 a2/\Ag a1 a2/\fL a1 a2/\Ah a1 a2/\fW a1 a2
abbrev AIK(a:MkIQ)(a1:KS):Prop:=D6 a (AXW a1) (addM a (advZ a a1.x))=mS a/\AYI a1 a/\StmBQ ((9:Int)+K9 a a1) a1.x.s/\M4 a1 a/\H3 a1/\R4 a1 /\
 APN a1
abbrev ALD(a:KS)(a1:KS):Prop:=Dr a<=Dr a1/\AAH a
abbrev AHS(a:MkIQ)(a1:KS)(a2:KS):Prop:=AIK a a1/\ALD a1 a2
abbrev AIZ(a:KS):Prop:=(5:Int)=Int.ofNat (5:Nat)/\I7 a
abbrev ADN(a:KS):Bool:=bif true then BA (Sy a) (5:Int)==(0:Int) else false
abbrev tO(a:KS):StmQ:=BQ (Sy a) (5:Int)
abbrev AIH(a:KS):List Int:=(tO a).bs
abbrev qU(a:KS):Nat:=(AIH a).length
abbrev sF(a:KS)(i:Nat):Int:=gD (AIH a) i
abbrev tQ(a:KS):List Int:=KA (qU a) λ(i:Nat)=>sF a i
abbrev ABA(a:KS):Nat:=(tQ a).length
abbrev Tz(a:KS):Int:=(tO a).used
abbrev gH(a:KS):Int:=(tO a).mix
abbrev ABB(a:KS):Prop:=BFM/\ABA a=qU a/\(∀(i:Nat),i<ABA a->gD (tQ a) i=sF a i)/\Tz a=Tz a/\gH a=gH a
 /\ (Tz a-(0:Int)).NonNeg
abbrev AIQ(a:KS):StmQ:=StmQ.mk (tQ a) (Tz a) (gH a)
abbrev ACH(a:KS)(a1:KS):Prop:=a.x.tm=IntKind.i64.wrap (a1.x.tm+BA (AIQ a1) (400:Int))
abbrev sZ(a:KS):StmQ:=BQ (AIQ a) (400:Int)
abbrev AFF(a:KS):List Int:=(sZ a).bs
abbrev ABC(a:KS)(a1:KS):Prop:=a.x.s.bs.length=(AFF a1).length
abbrev AKN(a:KS)(a1:KS):Prop:=∀(i:Nat),Ry i a->gD a.x.s.bs i=gD (AFF a1) i
abbrev AAF(a:KS)(a1:KS):Prop:=a.x.s.used=(sZ a1).used
abbrev AHU(a:KS)(a1:KS):Prop:=a.x.s.mix=(sZ a1).mix
abbrev AAO(a:KS):Prop:=a.x.z.length=(1:Nat)
abbrev ADG(a:KS):Int:=IntKind.i64.wrap ((↑a.x.ms.length:Int)-(1:Int))
abbrev sK(a:KS):Prop:=AAR a/\(1:Nat)<=a.x.z.length
abbrev ADV(a:MkIQ)(a1:KS)(a2:KS):Prop:=pJ a a1/\a1.k<=Dr a2/\sK a1
abbrev AAZ(a:KS)(a1:KS):Prop:=a.x.s.bs.length=qU a1
abbrev ACQ(a:KS)(a1:KS):Prop:=∀(i:Nat),Ry i a->gD a.x.s.bs i=sF a1 i
abbrev AJZ(a:KS)(a1:KS):Prop:=a.x.s.used=Tz a1
abbrev AEW(a:KS)(a1:KS):Prop:=a.x.s.mix=gH a1
abbrev rI(a:MkIQ)(a1:KS)(a2:KS):Prop:=pJ a a1/\ALD a1 a2
abbrev Tl:Prop:=false=true->bA
abbrev rU(a:KS):Nat:=a.x.ms.length+(1:Nat)
abbrev qL(a:KS):Nat:=a.x.t.length+(1:Nat)
abbrev sD(a:KS):Nat:=a.x.st.length+(1:Nat)
abbrev qY(a:KS)(a1:MkIQ):Prop:=((a.x.ms.length=a.x.ms.length/\((0:Nat)<a.x.ms.length->AUM))/\AVU/\Tl/\rU a<=(9223372036854775807:Nat)/\rU a*(16
 : Nat)<=(140737488355328:Nat))/\((a.x.t.length=a.x.t.length/\((0:Nat)<a.x.t.length->lF))/\lP/\Tl/\qL a<=(9223372036854775807:Nat)/\qL a*(8:Nat) <=
 (140737488355328:Nat))/\ATE a1 a/\AYA a1 a/\ALK a/\AAE a/\ABT a/\AAJ a/\AGY a/\(a.x.st.length=a.x.st.length/\((0:Nat)<a.x.st.length->lF)) /\
 lP/\Tl/\sD a<=(9223372036854775807:Nat)/\sD a*(8:Nat)<=(140737488355328:Nat)
abbrev fJ(a:KS)(a1:KS):Prop:=a.x.ms.length=rU a1
abbrev eX(a:KS)(a1:KS):Prop:=a.x.t.length=qL a1
abbrev gE(a:KS)(a1:KS):Prop:=a.x.st.length=sD a1
abbrev ACC(i:Nat)(a:KS):Bool:=decide (i<a.x.ms.length)
abbrev AGJ(a:KS)(a1:KS):Prop:=∀(i:Nat),i<a.x.ms.length->((gD a.x.ms i).pl=bif ACC i a1 then (gD a1.x.ms i).pl else a1.x.pl)/\(gD a.x.ms i).ht=bif ACC i a1 then (gD a1.x.ms
 i).ht else G8 a1
abbrev Z6(a:KS)(a1:KS):Prop:=∀(i:Nat),i<a.x.t.length->gD a.x.t i=bif decide (i<a1.x.t.length) then gD a1.x.t i else a1.x.tm
abbrev AHN(a:KS)(a1:KS)(a2:MkIQ):Prop:=∀(i:Nat),i<a.x.st.length->gD a.x.st i=bif decide (i<a1.x.st.length) then gD a1.x.st i else AEX a1 a2
abbrev sX(a:KS)(a1:KS):Prop:=a.x.z.length=a1.x.z.length
abbrev AGG(a:KS)(a1:KS):Prop:=sX a a1/\∀(i:Nat),i<a.x.z.length->gD a.x.z i=gD a1.x.z i
abbrev AHV(a:KS)(a1:KS)(a2:MkIQ):Prop:=true=true/\a.x.pl=a1.x.pl/\a.x.tm=a1.x.tm/\sJ a a1/\rZ a a1 a2/\rX a a1 a2/\rD a a1 a2/\sQ a a1 a2 /\
 AE/\AE/\AE/\AE/\AE/\AC/\AD/\AC/\AD/\AC/\AD/\AC/\AD/\AC/\AD/\ZN a2.s=ZN a2.s/\Ig
 a2.s=Ig a2.s/\Lx a2.s=Lx a2.s/\Ge a2.s=Ge a2.s/\Ch a2.s=Ch a2.s/\AC/\fJ a a1/\AC/\AD/\AC/\eX a a1/\AC/\gE a a1/\AC /\
 sX a a1/\fJ a a1/\AGJ a a1/\eX a a1/\Z6 a a1/\gE a a1/\AHN a a1 a2/\AGG a a1
abbrev qZ(a:MkIQ)(a1:KS):Prop:=M8 a a1/\sK a1
abbrev AJT(a:MkIQ)(a1:KS):Prop:=(mS a).ms.length=a1.x.ms.length
abbrev ABY(a:KS):Prop:=(0:Nat)+a.x.ms.length<=a.x.ms.length
abbrev Un(j:Nat):Nat:=(0:Nat)+j
abbrev ABN(a:KS)(j:Nat):Mk:=gD a.x.ms (Un j)
abbrev Z0(a:MkIQ)(a1:KS):Prop:=∀(j:Nat),j<(mS a).ms.length->(gD (mS a).ms j).pl=(ABN a1 j).pl/\(gD (mS a).ms j).ht=(ABN a1 j).ht
abbrev AHK(a:MkIQ)(a1:KS):Prop:=(mS a).t.length=a1.x.t.length
abbrev ADK(a:KS):Prop:=(0:Nat)+a.x.t.length<=a.x.t.length
abbrev ABL(a:MkIQ)(a1:KS):Prop:=∀(j:Nat),j<(mS a).t.length->gD (mS a).t j=gD a1.x.t (Un j)
abbrev ACJ(a:MkIQ)(a1:KS):Prop:=(mS a).st.length=a1.x.st.length
abbrev AIL(a:KS):Prop:=(0:Nat)+a.x.st.length<=a.x.st.length
abbrev Y8(a:MkIQ)(a1:KS):Prop:=∀(j:Nat),j<(mS a).st.length->gD (mS a).st j=gD a1.x.st (Un j)
abbrev sW(a:MkIQ)(a1:KS)(a2:KS):Prop:=AE/\AE/\AE/\AE/\AE/\AC/\AD/\AC/\AD/\AC/\AD/\AC /\
 AD/\AC/\AD/\ZN a.s=ZN a.s/\Ig a.s=Ig a.s/\Lx a.s=Lx a.s/\Ge a.s=Ge a.s/\Ch a.s=Ch a.s/\AC/\ZZ a1 a2/\AC/\AD/\AC /\
 Ag a1 a2/\AC/\Ah a1 a2/\AC/\sX a1 a2/\ZZ a1 a2/\fQ a1 a2/\Ag a1 a2/\fL a1 a2/\Ah a1 a2/\fW a1 a2/\AGG a1
 a2
abbrev AJJ(a:KS)(a1:KS):Prop:=a.k<=a1.k/\sK a
abbrev ABQ(a:MkIQ)(a1:KS)(a2:KS):Prop:=AIK a a1/\AJJ a1 a2
abbrev AIC(a:KS)(a1:KS):Prop:=a.x.z.length=oU a1
abbrev fG(a:MkIQ)(a1:KS)(a2:KS):Prop:=pJ a a1/\AJJ a1 a2
abbrev AEJ(a:MkIQ)(a1:KS):Prop:=∀(a_1:KS),fG a a_1 a1->pF a_1/\qY a_1 a/\∃(a_3:KS),AHV a_3 a_1 a/\qZ a a_3/\a_3.k<a1.k
abbrev Io(i:Nat)(a:KN):Prop:=i<a.x.s.bs.length
abbrev WQ(a:MkIQ):Prop:=(mS a).ms.length=(mS a).ms.length
abbrev WL(a:MkIQ):Prop:=∀(i:Nat),i<(mS a).ms.length->(gD (mS a).ms i).pl=(gD (mS a).ms i).pl/\(gD (mS a).ms i).ht=(gD (mS a).ms i).ht
abbrev WS(a:MkIQ):Prop:=(mS a).t.length=(mS a).t.length
abbrev WP(a:MkIQ):Prop:=∀(i:Nat),i<(mS a).t.length->gD (mS a).t i=gD (mS a).t i
abbrev WO(a:MkIQ):Prop:=(mS a).st.length=(mS a).st.length
abbrev WR(a:MkIQ):Prop:=∀(i:Nat),i<(mS a).st.length->gD (mS a).st i=gD (mS a).st i
abbrev WH(a:MkIQ):Prop:=(mS a).z.length=(mS a).z.length
abbrev WI(a:MkIQ):Prop:=∀(i:Nat),i<(mS a).z.length->gD (mS a).z i=gD (mS a).z i
abbrev Ja(a:MkIQ):Prop:=AE/\AE/\AE/\AE/\AE/\AC/\AD/\AC/\AD/\AC/\AD/\AC/\AD/\AC /\
 AD/\ZN a.s=ZN a.s/\Ig a.s=Ig a.s/\Lx a.s=Lx a.s/\Ge a.s=Ge a.s/\Ch a.s=Ch a.s/\WQ a/\WL a/\AC/\AD/\WS a/\WP a/\WO a /\
 WR a/\WH a/\WI a
abbrev sP(a:MkIQ):Int:=(7:Int)*a.m
abbrev AKD(a:MkIQ):Int:=(7:Int)+sP a
abbrev AFY(a:KN):Int:=(5:Int)*(↑a.i:Int)
abbrev AKP(a:MkIQ)(a1:KN):Prop:=TC a/\a1.i<=(mS a).ms.length/\StmBQ (AKD a+AFY a1) a1.x.s/\mkN a ((mS a).ms.length-a1.i) a1.i a1.x=Ua a/\a1.x.ns.length<=a1.i
abbrev qX(a:MkIQ)(a1:KN):Prop:=AKP a a1/\a1.x.ns=[]
abbrev AHI(a:KN)(a1:MkIQ):Bool:=decide ((↑a.i:Int)<(↑(mS a1).ms.length:Int))
abbrev rG(a:KN):List Int:=KA a.x.s.bs.length λ(i:Nat)=>gD a.x.s.bs i
abbrev AAY(a:KN):Nat:=(rG a).length
abbrev AGI(a:KN):Prop:=AAY a=a.x.s.bs.length/\(∀(i:Nat),i<AAY a->gD (rG a) i=gD a.x.s.bs i)/\a.x.s.used=a.x.s.used/\a.x.s.mix=a.x.s.mix/\(a.x.s.used-(0 :
 Int)).NonNeg
abbrev AIX(a:KN):Prop:=(2:Int)=Int.ofNat (2:Nat)/\AGI a
abbrev AII(a:KNb)(a1:KN):Prop:=(↑a.i:Int)=(↑a1.i:Int)
abbrev fI(a:KN):StmQ:=StmQ.mk (rG a) a.x.s.used a.x.s.mix
abbrev AKL(a:KNb)(a1:KN):Prop:=a.b=(BA (fI a1) (2:Int)==(0:Int))
abbrev rA(a:KN):StmQ:=BQ (fI a) (2:Int)
abbrev ABH(a:KN):List Int:=(rA a).bs
abbrev AFC(a:KNb)(a1:KN):Prop:=a.x.s.bs.length=(ABH a1).length
abbrev AKO(a:KNb)(a1:KN):Prop:=∀(i:Nat),i<a.x.s.bs.length->gD a.x.s.bs i=gD (ABH a1) i
abbrev AJW(a:KNb)(a1:KN):Prop:=a.x.s.used=(rA a1).used
abbrev AIT(a:KNb)(a1:KN):Prop:=a.x.s.mix=(rA a1).mix
abbrev Tn(a:KN):Nat:=(100:Nat)-a.i
abbrev ADM(a:KNb):Nat:=a.i+(1:Nat)
abbrev AHL(a:MkIQ)(a1:KNb)(a2:KN):Prop:=TC a/\(a1.i<(mS a).ms.length/\(100:Nat)-a1.i=Tn a2)/\StmBQ ((8:Int)+sP a+(5:Int)*(↑a1.i:Int)) a1.x.s/\mkN a
 ((mS a).ms.length-ADM a1) (ADM a1) (addN a a1.b a1.i a1.x)=Ua a/\a1.x.ns.length<=a1.i
abbrev AIY(a:MkIQ)(a1:KNb)(a2:KN):Prop:=AHL a a1 a2/\a1.x.ns=[]
abbrev AGV(a:KNb):Prop:=(0:Int)<=(↑a.i:Int)
abbrev eS(a:KNb)(a1:MkIQ):Prop:=AGV a/\(↑a.i:Int)<(↑(mS a1).t.length:Int)
abbrev eZ:Prop:=(40:Int)=Int.ofNat (40:Nat)
abbrev rT(a:KNb):List Int:=KA a.x.s.bs.length λ(i:Nat)=>gD a.x.s.bs i
abbrev AAN(a:KNb):Nat:=(rT a).length
abbrev AJC(a:KNb):Prop:=AAN a=a.x.s.bs.length
abbrev AFN(a:KNb):Prop:=∀(i:Nat),i<AAN a->gD (rT a) i=gD a.x.s.bs i
abbrev ACL(a:KNb):Prop:=a.x.s.used=a.x.s.used
abbrev AJE(a:KNb):Prop:=a.x.s.mix=a.x.s.mix
abbrev ACE(a:KNb):Prop:=(0:Int)<=a.x.s.used
abbrev AJM(a:KNb):StmQ:=StmQ.mk (rT a) a.x.s.used a.x.s.mix
abbrev tB(a:KNb):StmQ:=BQ (AJM a) (40:Int)
abbrev AFQ(a:KNb):List Int:=(tB a).bs
abbrev AGX(a:KNb):Nat:=(AFQ a).length
abbrev AJA(a:KNb)(i:Nat):Int:=gD (AFQ a) i
abbrev sY(a:KNb):List Int:=KA (AGX a) λ(i:Nat)=>AJA a i
abbrev AJB(a:KNb):Nat:=(sY a).length
abbrev Y4(a:KNb):Prop:=AJB a=AGX a
abbrev AFD(a:KNb):Prop:=∀(i:Nat),i<AJB a->gD (sY a) i=AJA a i
abbrev fR(a:KNb):Int:=(tB a).used
abbrev AGR(a:KNb):Prop:=fR a=fR a
abbrev rS(a:KNb):Int:=(tB a).mix
abbrev ACO(a:KNb):Prop:=rS a=rS a
abbrev Y6(a:KNb):Prop:=(0:Int)<=fR a
abbrev eR(a:KNb)(a1:MkIQ):Prop:=AGV a/\(↑a.i:Int)<(↑(mS a1).st.length:Int)
abbrev Y7(a:KNb):StmQ:=StmQ.mk (sY a) (fR a) (rS a)
abbrev tL(a:KNb):StmQ:=BQ (Y7 a) (40:Int)
abbrev ADO(a:KNb):List Int:=(tL a).bs
abbrev AHO(a:KNb):Nat:=(ADO a).length
abbrev AEC(a:KNb)(i:Nat):Int:=gD (ADO a) i
abbrev tM(a:KNb):List Int:=KA (AHO a) λ(i:Nat)=>AEC a i
abbrev AIM(a:KNb):Nat:=(tM a).length
abbrev AJH(a:KNb):Prop:=AIM a=AHO a
abbrev AGK(a:KNb):Prop:=∀(i:Nat),i<AIM a->gD (tM a) i=AEC a i
abbrev fH(a:KNb):Int:=(tL a).used
abbrev Z7(a:KNb):Prop:=fH a=fH a
abbrev rQ(a:KNb):Int:=(tL a).mix
abbrev AGD(a:KNb):Prop:=rQ a=rQ a
abbrev AHA(a:KNb):Prop:=(0:Int)<=fH a
abbrev AGA(a:KNb):StmQ:=StmQ.mk (tM a) (fH a) (rQ a)
abbrev rW(a:KNb):StmQ:=BQ (AGA a) (9:Int)
abbrev ADE(a:KNb):List Int:=(rW a).bs
abbrev AKK(a:KNb):Nat:=(ADE a).length
abbrev ACI(a:KNb)(i:Nat):Int:=gD (ADE a) i
abbrev qV(a:KNb):List Int:=KA (AKK a) λ(i:Nat)=>ACI a i
abbrev ACR(a:KNb):Nat:=(qV a).length
abbrev AEU(a:KNb):Prop:=ACR a=AKK a
abbrev ADF(a:KNb):Prop:=∀(i:Nat),i<ACR a->gD (qV a) i=ACI a i
abbrev fZ(a:KNb):Int:=(rW a).used
abbrev AEF(a:KNb):Prop:=fZ a=fZ a
abbrev tH(a:KNb):Int:=(rW a).mix
abbrev AFT(a:KNb):Prop:=tH a=tH a
abbrev ADU(a:KNb):Prop:=(0:Int)<=fZ a
abbrev ALA:Prop:=(5:Nat)=(5:Nat)
abbrev ADA:Prop:=L7/\(bA->ALA)
abbrev eQ(a:KN)(a1:KNb):Prop:=(↑a.i:Int)=(↑a1.i:Int)
abbrev ACY(a:KNb):StmQ:=StmQ.mk (qV a) (fZ a) (tH a)
abbrev rK(a:KNb):StmQ:=BQ (ACY a) (9:Int)
abbrev AFS(a:KNb):List Int:=(rK a).bs
abbrev AGB(a:KN)(a1:KNb):Prop:=a.x.s.bs.length=(AFS a1).length
abbrev AKZ(a:KN)(a1:KNb):Prop:=∀(i:Nat),Io i a->gD a.x.s.bs i=gD (AFS a1) i
abbrev AKH(a:KN)(a1:KNb):Prop:=a.x.s.used=(rK a1).used
abbrev ACD(a:KN)(a1:KNb):Prop:=a.x.s.mix=(rK a1).mix
abbrev AHF(a:KN):Prop:=a.x.ns.length=(1:Nat)
abbrev AIR(a:MkIQ)(a1:KNb):Int:=OL (0:Int) (IntKind.i64.wrap (gD (mS a).t a1.i-BA (AJM a1) (40:Int)))
abbrev ADI(a:MkIQ)(a1:KNb):Int:=IntKind.i64.wrap (gD (mS a).t a1.i+BA (Y7 a1) (40:Int))
abbrev AFO(a:MkIQ)(a1:KNb):Int:=IntKind.i64.wrap (gD (mS a).st a1.i-BA (AGA a1) (9:Int))
abbrev AAD(a:MkIQ)(a1:KNb):Int:=IntKind.i64.wrap (gD (mS a).st a1.i+BA (ACY a1) (9:Int))
abbrev sG(a:KN):Nat:=a.i+(1:Nat)
abbrev AEY(a:MkIQ)(a1:KN)(a2:KN):Prop:=TC a/\(a1.i<(mS a).ms.length/\Tn a1=Tn a2)/\StmBQ ((12:Int)+sP a+AFY a1) a1.x.s/\mkN a ((mS a).ms.length
 - sG a1) (sG a1) a1.x=Ua a/\a1.x.ns.length<=sG a1
abbrev AJX(a:KN):Prop:=(1:Nat)<=a.x.ns.length
abbrev fU(a:MkIQ)(a1:KN)(a2:KN):Prop:=AEY a a1 a2/\AJX a1
abbrev AEG(a:KN)(a1:KNb):Prop:=a.x.s.bs.length=a1.x.s.bs.length
abbrev AGL(a:KN)(a1:KNb):Prop:=∀(i:Nat),Io i a->gD a.x.s.bs i=gD a1.x.s.bs i
abbrev AEA(a:KN)(a1:KNb):Prop:=a.x.s.used=a1.x.s.used
abbrev ADR(a:KN)(a1:KNb):Prop:=a.x.s.mix=a1.x.s.mix
abbrev AKX(a:MkIQ)(a1:KN)(a2:KN):Prop:=AEY a a1 a2/\a1.x.ns=[]
abbrev Uf(a:KN):Int:=IntKind.i64.wrap ((↑a.i:Int)+(1:Int))
abbrev AAX(a:KN)(a1:KN):Prop:=(↑a.i:Int)=Uf a1
abbrev AID(a:KN)(a1:KN):Prop:=a.x.s.bs.length=a1.x.s.bs.length
abbrev ADY(a:KN)(a1:KN):Prop:=∀(i:Nat),Io i a->gD a.x.s.bs i=gD a1.x.s.bs i
abbrev AEI(a:KN)(a1:KN):Prop:=a.x.s.used=a1.x.s.used
abbrev AKE(a:KN)(a1:KN):Prop:=a.x.s.mix=a1.x.s.mix
abbrev AET(a:KN)(a1:KN):Prop:=Tn a<Tn a1
abbrev fT(a:KN)(a1:KN):Prop:=a.x.ns.length=a1.x.ns.length
abbrev AKF(a:MkIQ)(a1:KN):Prop:=AKP a a1/\AJX a1
abbrev qJ(a:MkIQ)(a1:KN):Prop:=∀(a_1:KN),fU a a_1 a1->∃(a_3:KN),(AAX a_3 a_1/\AID a_3 a_1/\ADY a_3 a_1/\AEI a_3 a_1/\AKE a_3 a_1 /\
 AE/\AE/\AE/\AE/\AE/\AC/\AD/\AC/\AD/\AC/\AD/\AC/\AD/\AC/\AD/\ZN a.s=ZN a.s/\Ig
 a.s=Ig a.s/\Lx a.s=Lx a.s/\Ge a.s=Ge a.s/\Ch a.s=Ch a.s/\WQ a/\WL a/\AC/\fT a_3 a_1/\WS a/\WP a/\WO a/\WR a/\WH a
 /\ WI a/\fT a_3 a_1/\∀(i:Nat),i<a_3.x.ns.length->(gD a_3.x.ns i).mi=(gD a_1.x.ns i).mi/\(gD a_3.x.ns i).t.lo=(gD a_1.x.ns i).t.lo/\(gD a_3.x.ns i).t.hi=(gD a_1.x.ns i).t.hi/\(gD
 a_3.x.ns i).s.lo=(gD a_1.x.ns i).s.lo/\(gD a_3.x.ns i).s.hi=(gD a_1.x.ns i).s.hi)/\AKF a a_3/\AET a_3 a1
abbrev ADT(a:MkIQ)(a1:KN):Prop:=(Ua a).s.bs.length=a1.x.s.bs.length
abbrev AJI(a:MkIQ)(a1:KN):Prop:=∀(i:Nat),i<(Ua a).s.bs.length->gD (Ua a).s.bs i=gD a1.x.s.bs i
abbrev AHB(a:MkIQ)(a1:KN):Prop:=(Ua a).s.used=a1.x.s.used
abbrev ACW(a:MkIQ)(a1:KN):Prop:=(Ua a).s.mix=a1.x.s.mix
abbrev ABV(a:MkIQ):Prop:=TC a/\(Ua a).ns=[]
abbrev AHG(a:KNb)(a1:KN):Prop:=a.x.ns.length=a1.x.ns.length
abbrev AAB(a:MkIQ)(a1:KNb)(a2:KN):Prop:=AHL a a1 a2/\(1:Nat)<=a1.x.ns.length
abbrev rR(a:KNb):Nat:=a.x.ns.length+(1:Nat)
abbrev AIA(a:KN)(a1:KNb):Prop:=a.x.ns.length=rR a1
abbrev Uh(i:Nat)(a:KNb):Bool:=decide (i<a.x.ns.length)
abbrev ABX(a:KN)(a1:KNb):Prop:=a.x.ns.length=a1.x.ns.length
abbrev AIJ(a:MkIQ)(a1:KN):Prop:=(Ua a).ns.length=a1.x.ns.length
abbrev AKS(a:MkIQ):Int:=AKD a+(5:Int)*a.m
abbrev AJV(a:MkIQ):Prop:=TC a/\StmBQ (AKS a) (Ua a).s/\(1:Nat)<=(Ua a).ns.length/\(↑(Ua a).ns.length:Int)<=a.m
abbrev tJ(i:Nat)(a:MkIQ):Prop:=i<(mE a).s.bs.length
abbrev AKY(a:MkIQ):Prop:=(ZP a).ms.length=(mS a).ms.length
abbrev AIB(a:MkIQ):Prop:=∀(i:Nat),i<(ZP a).ms.length->(gD (ZP a).ms i).pl=(gD (mS a).ms i).pl/\(gD (ZP a).ms i).ht=(gD (mS a).ms i).ht
abbrev AEK(a:MkIQ):Prop:=(ZP a).ns.length=(0:Nat)
abbrev Z9(a:MkIQ):Prop:=(jV a).t.length=(mS a).t.length
abbrev AIE(a:MkIQ):Prop:=∀(i:Nat),i<(jV a).t.length->gD (jV a).t i=gD (mS a).t i
abbrev AFR(a:MkIQ):Prop:=(jV a).s.length=(mS a).st.length
abbrev AKT(a:MkIQ):Prop:=∀(i:Nat),i<(jV a).s.length->gD (jV a).s i=gD (mS a).st i
abbrev AHJ(a:MkIQ):Prop:=(jV a).z.length=(mS a).z.length
abbrev AAV(a:MkIQ):Prop:=∀(i:Nat),i<(jV a).z.length->gD (jV a).z i=gD (mS a).z i
abbrev AFA(a:KN)(a1:MkIQ):Prop:=a.x.ns.length=(Ua a1).ns.length
abbrev tS(a:MkIQ)(a1:KN):Prop:=TC a/\a1.i<a1.x.ns.length/\StmBQ (AKS a+a.m-(↑a1.i:Int)) a1.x.s/\shK a1.i a1.x=mE a/\(↑a1.x.ns.length:Int)<=a.m
abbrev rB(a:KN):Int:=BA (fI a) (Uf a)
abbrev AGN(a:KN):Prop:=(0:Int)<=rB a/\rB a<(↑a.x.ns.length:Int)
abbrev gL(a:KN):Nat:=(0:Nat)+(rB a).toNat
abbrev AIO(a:KN):Prop:=(0:Int)<=(↑a.i:Int)/\(↑a.i:Int)<(↑a.x.ns.length:Int)
abbrev sN(a:KN):Nat:=(0:Nat)+a.i
abbrev AJU(a:KN):Prop:=sN a<a.x.ns.length
abbrev tN(a:KN):StmQ:=BQ (fI a) (Uf a)
abbrev AHY(a:KN):List Int:=(tN a).bs
abbrev Tx(i:Nat)(a:KN):Bool:=decide (i=gL a)
abbrev tT(a:KN):Nt:=gD a.x.ns (sN a)
abbrev Tv(i:Nat)(a:KN):Bool:=decide (i=sN a)
abbrev tA(a:KN):Nt:=gD a.x.ns (gL a)
abbrev Z5(a:KN):Span:=(tT a).t
abbrev AJQ(a:KN):Span:=(tA a).t
abbrev AGS(a:KN):Span:=(tT a).s
abbrev AIN(a:KN):Span:=(tA a).s
abbrev tG(a:KN)(j:Nat):Nt:=gD a.x.ns (Un j)
abbrev ACG(a:KN)(j:Nat):Span:=(tG a j).t
abbrev AJG(a:KN)(j:Nat):Span:=(tG a j).s
abbrev AGM(a:MkIQ):Prop:=∀(a_1:One),TC a->((∃(a_3:KN),((↑a_3.i:Int)=(0:Int)/\a_3.x.s.bs.length=(mS a).s.bs.length/\(∀(i:Nat),Io i a_3->gD a_3.x.s.bs i=gD (mS
 a).s.bs i)/\a_3.x.s.used=(mS a).s.used/\a_3.x.s.mix=(mS a).s.mix/\Ja a)/\qX a a_3)/\(∀(a_3:KN),qX a a_3->bif bif AHI a_3 a then decide ((↑(0:Nat):Int)<(20:Int))
 else false then ((AIX a_3/\∃(a_5:KNb),(AII a_5 a_3/\AKL a_5 a_3/\AFC a_5 a_3/\AKO a_5 a_3/\AJW a_5 a_3/\AIT a_5 a_3/\Ja a)/\AIY a a_5
 a_3)/\∀(a_5:KNb),AIY a a_5 a_3->bif a_5.b then (eS a_5 a/\eZ/\AJC a_5/\AFN a_5/\ACL a_5/\AJE a_5/\ACE a_5/\eS a_5 a/\eZ /\
 Y4 a_5/\AFD a_5/\AGR a_5/\ACO a_5/\Y6 a_5/\eR a_5 a/\aF/\AJH a_5/\AGK a_5/\Z7 a_5/\AGD a_5/\AHA a_5 /\
 eR a_5 a/\aF/\AEU a_5/\ADF a_5/\AEF a_5/\AFT a_5/\ADU a_5/\(True/\(J4->(0:Nat)=(5:Nat)))/\ADA/\P9/\E3/\(40 :
 Nat)<=(140737488355328:Nat))/\∃(a_7:KN),(eQ a_7 a_5/\AGB a_7 a_5/\AKZ a_7 a_5/\AKH a_7 a_5/\ACD a_7 a_5/\AE/\AE/\AE/\AE /\
 AE/\AC/\AD/\AC/\AD/\AC/\AD/\AC/\AD/\AC/\AD/\ZN a.s=ZN a.s/\Ig a.s=Ig a.s/\Lx a.s=Lx a.s/\Ge a.s=Ge a.s
 /\ Ch a.s=Ch a.s/\WQ a/\WL a/\AC/\AHF a_7/\WS a/\WP a/\WO a/\WR a/\WH a/\WI a/\AHF a_7/\∀(i:Nat),i <
 a_7.x.ns.length->(gD a_7.x.ns i).mi=(↑a_5.i:Int)/\(gD a_7.x.ns i).t.lo=AIR a a_5/\(gD a_7.x.ns i).t.hi=ADI a a_5/\(gD a_7.x.ns i).s.lo=AFO a a_5/\(gD a_7.x.ns i).s.hi=AAD
 a a_5)/\fU a a_7 a_3 else ∃(a_7:KN),(eQ a_7 a_5/\AEG a_7 a_5/\AGL a_7 a_5/\AEA a_7 a_5/\ADR a_7 a_5/\Ja a)/\AKX a a_7 a_3)/\(∀(a_5:KN),
 AKX a a_5 a_3->∃(a_7:KN),(AAX a_7 a_5/\AID a_7 a_5/\ADY a_7 a_5/\AEI a_7 a_5/\AKE a_7 a_5/\Ja a)/\qX a a_7/\AET a_7 a_3)/\qJ
 a a_3 else ∃(a_5:One),(ADT a a_3/\AJI a a_3/\AHB a a_3/\ACW a a_3/\Ja a)/\ABV a)/\∀(a_3:KN),AKF a a_3->bif bif AHI a_3 a then decide
 ((↑a_3.x.ns.length:Int)<(20:Int)) else false then ((AIX a_3/\∃(a_5:KNb),(AII a_5 a_3/\AKL a_5 a_3/\AFC a_5 a_3/\AKO a_5 a_3/\AJW a_5 a_3/\AIT a_5
 a_3/\AE/\AE/\AE/\AE/\AE/\AC/\AD/\AC/\AD/\AC/\AD/\AC/\AD/\AC/\AD/\ZN a.s=ZN a.s /\
 Ig a.s=Ig a.s/\Lx a.s=Lx a.s/\Ge a.s=Ge a.s/\Ch a.s=Ch a.s/\WQ a/\WL a/\AC/\AHG a_5 a_3/\WS a/\WP a/\WO a/\WR a /\
 WH a/\WI a/\AHG a_5 a_3/\∀(i:Nat),i<a_5.x.ns.length->(gD a_5.x.ns i).mi=(gD a_3.x.ns i).mi/\(gD a_5.x.ns i).t.lo=(gD a_3.x.ns i).t.lo/\(gD a_5.x.ns i).t.hi=(gD a_3.x.ns i).t.hi
 /\ (gD a_5.x.ns i).s.lo=(gD a_3.x.ns i).s.lo/\(gD a_5.x.ns i).s.hi=(gD a_3.x.ns i).s.hi)/\AAB a a_5 a_3)/\∀(a_5:KNb),AAB a a_5 a_3->bif a_5.b then (eS a_5 a/\eZ/\AJC
 a_5/\AFN a_5/\ACL a_5/\AJE a_5/\ACE a_5/\eS a_5 a/\eZ/\Y4 a_5/\AFD a_5/\AGR a_5/\ACO a_5/\Y6 a_5/\eR a_5 a
 /\ aF/\AJH a_5/\AGK a_5/\Z7 a_5/\AGD a_5/\AHA a_5/\eR a_5 a/\aF/\AEU a_5/\ADF a_5/\AEF a_5/\AFT a_5 /\
 ADU a_5/\(a_5.x.ns.length=a_5.x.ns.length/\((0:Nat)<a_5.x.ns.length->ALA))/\ADA/\Tl/\rR a_5<=(9223372036854775807:Nat)/\rR a_5*(40:Nat) <=
 (140737488355328:Nat))/\∃(a_7:KN),(eQ a_7 a_5/\AGB a_7 a_5/\AKZ a_7 a_5/\AKH a_7 a_5/\ACD a_7 a_5/\AE/\AE/\AE/\AE/\AE /\
 AC/\AD/\AC/\AD/\AC/\AD/\AC/\AD/\AC/\AD/\ZN a.s=ZN a.s/\Ig a.s=Ig a.s/\Lx a.s=Lx a.s/\Ge a.s=Ge a.s/\Ch a.s =
 Ch a.s/\WQ a/\WL a/\AC/\AIA a_7 a_5/\WS a/\WP a/\WO a/\WR a/\WH a/\WI a/\AIA a_7 a_5/\∀(i:Nat),i <
 a_7.x.ns.length->((gD a_7.x.ns i).mi=bif Uh i a_5 then (gD a_5.x.ns i).mi else (↑a_5.i:Int))/\((gD a_7.x.ns i).t.lo=bif Uh i a_5 then (gD a_5.x.ns i).t.lo else AIR a a_5)/\((gD a_7.x.ns
 i).t.hi=bif Uh i a_5 then (gD a_5.x.ns i).t.hi else ADI a a_5)/\((gD a_7.x.ns i).s.lo=bif Uh i a_5 then (gD a_5.x.ns i).s.lo else AFO a a_5)/\(gD a_7.x.ns i).s.hi=bif Uh
 i a_5 then (gD a_5.x.ns i).s.hi else AAD a a_5)/\fU a a_7 a_3 else ∃(a_7:KN),(eQ a_7 a_5/\AEG a_7 a_5/\AGL a_7 a_5/\AEA a_7 a_5/\ADR a_7 a_5/\AE
 /\ AE/\AE/\AE/\AE/\AC/\AD/\AC/\AD/\AC/\AD/\AC/\AD/\AC/\AD/\ZN a.s=ZN a.s/\Ig a.s=Ig
 a.s/\Lx a.s=Lx a.s/\Ge a.s=Ge a.s/\Ch a.s=Ch a.s/\WQ a/\WL a/\AC/\ABX a_7 a_5/\WS a/\WP a/\WO a/\WR a/\WH a /\
 WI a/\ABX a_7 a_5/\∀(i:Nat),i<a_7.x.ns.length->(gD a_7.x.ns i).mi=(gD a_5.x.ns i).mi/\(gD a_7.x.ns i).t.lo=(gD a_5.x.ns i).t.lo/\(gD a_7.x.ns i).t.hi=(gD a_5.x.ns i).t.hi/\(gD a_7.x.ns
 i).s.lo=(gD a_5.x.ns i).s.lo/\(gD a_7.x.ns i).s.hi=(gD a_5.x.ns i).s.hi)/\fU a a_7 a_3)/\qJ a a_3/\qJ a a_3 else ∃(a_5:One),(ADT a a_3/\AJI a a_3/\AHB a
 a_3/\ACW a a_3/\AE/\AE/\AE/\AE/\AE/\AC/\AD/\AC/\AD/\AC/\AD/\AC/\AD/\AC/\AD /\
 ZN a.s=ZN a.s/\Ig a.s=Ig a.s/\Lx a.s=Lx a.s/\Ge a.s=Ge a.s/\Ch a.s=Ch a.s/\WQ a/\WL a/\AC/\AIJ a a_3/\WS a/\WP a/\WO a /\
 WR a/\WH a/\WI a/\AIJ a a_3/\∀(i:Nat),i<(Ua a).ns.length->(gD (Ua a).ns i).mi=(gD a_3.x.ns i).mi/\(gD (Ua a).ns i).t.lo=(gD a_3.x.ns i).t.lo/\(gD (Ua a).ns i).t.hi
 = (gD a_3.x.ns i).t.hi/\(gD (Ua a).ns i).s.lo=(gD a_3.x.ns i).s.lo/\(gD (Ua a).ns i).s.hi=(gD a_3.x.ns i).s.hi)/\AJV a)/\(∀(a_3:One),ABV a->(∃(a_5:One),(Int.negSucc (0:Nat) =
 Int.negSucc (0:Nat)/\(mE a).s.bs.length=(Ua a).s.bs.length/\(∀(i:Nat),tJ i a->gD (mE a).s.bs i=gD (Ua a).s.bs i)/\(mE a).s.used=(Ua a).s.used/\(mE a).s.mix=(Ua a).s.mix/\Ja a) /\
 (mE a).ns=[])/\∀(a_5:One),(mE a).ns=[]->(ZP a).p.lo=ZN a.s/\(ZP a).p.hi=Ig a.s/\(ZP a).base=Lx a.s/\(ZP a).scale=Ge a.s/\(ZP a).off=Ch a.s/\AKY a/\AIB a/\AEK a
 /\ AEK a/\Z9 a/\AIE a/\AFR a/\AKT a/\AHJ a/\AAV a/\(mE a).s.bs.length=(mE a).s.bs.length/\(∀(i:Nat),tJ i a->gD (mE a).s.bs i=gD (mE
 a).s.bs i)/\(mE a).s.used=(mE a).s.used/\(mE a).s.mix=(mE a).s.mix)/\∀(a_3:One),AJV a->(∃(a_5:KN),((↑a_5.i:Int)=IntKind.i64.wrap ((↑(Ua a).ns.length:Int)-(1:Int))/\a_5.x.s.bs.length =
 (Ua a).s.bs.length/\(∀(i:Nat),Io i a_5->gD a_5.x.s.bs i=gD (Ua a).s.bs i)/\a_5.x.s.used=(Ua a).s.used/\a_5.x.s.mix=(Ua a).s.mix/\AE/\AE/\AE/\AE/\AE
 /\ AC/\AD/\AC/\AD/\AC/\AD/\AC/\AD/\AC/\AD/\ZN a.s=ZN a.s/\Ig a.s=Ig a.s/\Lx a.s=Lx a.s/\Ge a.s=Ge a.s/\Ch a.s
 = Ch a.s/\WQ a/\WL a/\AC/\AFA a_5 a/\WS a/\WP a/\WO a/\WR a/\WH a/\WI a/\AFA a_5 a/\∀(i:Nat),i <
 a_5.x.ns.length->(gD a_5.x.ns i).mi=(gD (Ua a).ns i).mi/\(gD a_5.x.ns i).t.lo=(gD (Ua a).ns i).t.lo/\(gD a_5.x.ns i).t.hi=(gD (Ua a).ns i).t.hi/\(gD a_5.x.ns i).s.lo=(gD (Ua a).ns i).s.lo/\(gD a_5.x.ns
 i).s.hi=(gD (Ua a).ns i).s.hi)/\tS a a_5)/\∀(a_5:KN),tS a a_5->bif decide ((↑a_5.i:Int)>(0:Int)) then (Uf a_5=Uf a_5/\AGI a_5)/\(AGN a_5 /\
 gL a_5<a_5.x.ns.length/\AIO a_5/\AJU a_5/\AIO a_5/\AJU a_5/\AGN a_5/\(gL a_5).succ.le a_5.x.ns.length)/\∃(a_7:KN),((↑a_7.i:Int)=IntKind.i64.wrap
 ((↑a_5.i:Int)-(1:Int))/\a_7.x.s.bs.length=(AHY a_5).length/\(∀(i:Nat),Io i a_7->gD a_7.x.s.bs i=gD (AHY a_5) i)/\a_7.x.s.used=(tN a_5).used/\a_7.x.s.mix =
 (tN a_5).mix/\AE/\AE/\AE/\AE/\AE/\AC/\AD/\AC/\AD/\AC/\AD/\AC/\AD/\AC/\AD /\
 ZN a.s=ZN a.s/\Ig a.s=Ig a.s/\Lx a.s=Lx a.s/\Ge a.s=Ge a.s/\Ch a.s=Ch a.s/\WQ a/\WL a/\AC/\fT a_7 a_5/\WS a/\WP a/\WO a /\
 WR a/\WH a/\WI a/\fT a_7 a_5/\∀(i:Nat),i<a_7.x.ns.length->((gD a_7.x.ns i).mi=bif Tx i a_5 then (tT a_5).mi else bif Tv i a_5 then (tA
 a_5).mi else (gD a_5.x.ns i).mi)/\((gD a_7.x.ns i).t.lo=bif Tx i a_5 then (Z5 a_5).lo else bif Tv i a_5 then (AJQ a_5).lo else (gD a_5.x.ns i).t.lo)/\((gD a_7.x.ns i).t.hi=bif
 Tx i a_5 then (Z5 a_5).hi else bif Tv i a_5 then (AJQ a_5).hi else (gD a_5.x.ns i).t.hi)/\((gD a_7.x.ns i).s.lo=bif Tx i a_5 then (AGS a_5).lo else bif Tv i
 a_5 then (AIN a_5).lo else (gD a_5.x.ns i).s.lo)/\(gD a_7.x.ns i).s.hi=bif Tx i a_5 then (AGS a_5).hi else bif Tv i a_5 then (AIN a_5).hi else (gD a_5.x.ns i).s.hi) /\
 tS a a_7/\a_7.i<a_5.i else (ZP a).p.lo=ZN a.s/\(ZP a).p.hi=Ig a.s/\(ZP a).base=Lx a.s/\(ZP a).scale=Ge a.s/\(ZP a).off=Ch a.s/\AKY a/\AIB a/\(ZP a).ns.length =
 a_5.x.ns.length/\(0:Nat)+a_5.x.ns.length<=a_5.x.ns.length/\(∀(j:Nat),j<(ZP a).ns.length->(gD (ZP a).ns j).mi=(tG a_5 j).mi/\(gD (ZP a).ns j).t.lo=(ACG a_5 j).lo/\(gD (ZP a).ns
 j).t.hi=(ACG a_5 j).hi/\(gD (ZP a).ns j).s.lo=(AJG a_5 j).lo/\(gD (ZP a).ns j).s.hi=(AJG a_5 j).hi)/\Z9 a/\AIE a/\AFR a/\AKT a/\AHJ a /\
 AAV a/\(mE a).s.bs.length=a_5.x.s.bs.length/\(∀(i:Nat),tJ i a->gD (mE a).s.bs i=gD a_5.x.s.bs i)/\(mE a).s.used=a_5.x.s.used/\(mE a).s.mix=a_5.x.s.mix
theorem DCC(a:MkIQ):(CPL a)=(((AMM/\BIX/\BEF a=a.s.bs.length/\(∀(i:Nat),i<BEF a->gD (ALN a) i=gD a.s.bs i)/\a.s.used=a.s.used/\a.s.mix=a.s.mix/\(0:Int)
 <= a.s.used/\(-50:Int)=Int.negSucc (49:Nat)/\BFM/\AWJ a=BFQ a/\(∀(i:Nat),i<AWJ a->gD (K3 a) i=BGK a i)/\nV a=nV a/\R2 a=R2
 a/\(0:Int)<=nV a/\BIX/\AUP a=AXZ a/\(∀(i:Nat),i<AUP a->gD (P7 a) i=AZK a i)/\nG a=nG a/\F6 a=F6 a/\(0:Int) <=
 nG a/\aF/\AZP a=APX a/\(∀(i:Nat),i<AZP a->gD (T9 a) i=AWP a i)/\pP a=pP a/\L8 a=L8 a/\(pP a-(0 :
 Int)).NonNeg)/\∃(a_1:One),(a.m=a.m/\true=true/\(gS4 a.s).bs.length=(AQA a).length/\(∀(i:Nat),i<(gS4 a.s).bs.length->gD (gS4 a.s).bs i=gD (AQA a) i)/\(gS4 a.s).used=(V2
 a).used/\(gS4 a.s).mix=(V2 a).mix/\AE/\AE/\AE/\AE/\AE/\AC/\AD/\AC/\AD/\AC/\AD/\AC/\AD /\
 AC/\AD/\ZN a.s=Js (BHW a) (1:Int) (12:Int)/\AE/\Lx a.s=Js (AUG a) (-50:Int) (400:Int)/\Ge a.s=BA (AQS a) (12:Int)/\Ch a.s=BA (BAF
 a) (9:Int)/\D3)/\StmBQ (4:Int) (gS4 a.s))/\∀(a_1:One),StmBQ (4:Int) (gS4 a.s)->(((6:Int)=Int.ofNat (6:Nat)/\ARC a=(gS4 a.s).bs.length/\(∀(i:Nat),i<ARC a->gD (K7
 a) i=gD (gS4 a.s).bs i)/\(gS4 a.s).used=(gS4 a.s).used/\(gS4 a.s).mix=(gS4 a.s).mix/\((gS4 a.s).used-(0:Int)).NonNeg)/\∃(a_3:One),(a.m=a.m/\true=true/\(gS5 a.s).bs.length=(AVB a).length /\
 (∀(i:Nat),i<(gS5 a.s).bs.length->gD (gS5 a.s).bs i=gD (AVB a) i)/\(gS5 a.s).used=(I0 a).used/\(gS5 a.s).mix=(I0 a).mix/\AE/\AE/\AE/\AE /\
 AE/\AC/\AD/\AC/\AD/\AC/\AD/\AC/\AD/\AC/\AD/\ZN a.s=ZN a.s/\Ig a.s=IntKind.i64.wrap (ZN a.s+BA (AZA
 a) (6:Int))/\Lx a.s=Lx a.s/\Ge a.s=Ge a.s/\Ch a.s=Ch a.s/\D3)/\StmBQ (5:Int) (gS5 a.s))/\∀(a_3:One),StmBQ (5:Int) (gS5 a.s)->(((300:Int)=Int.ofNat (300:Nat)/\AYV a=(gS5
 a.s).bs.length/\(∀(i:Nat),i<AYV a->gD (F1 a) i=gD (gS5 a.s).bs i)/\(gS5 a.s).used=(gS5 a.s).used/\(gS5 a.s).mix=(gS5 a.s).mix/\((gS5 a.s).used-(0:Int)).NonNeg)/\∃(a_5:One),(a.m =
 a.m/\true=true/\AE/\hTm a.s=BA (AZR a) (300:Int)/\(gS6 a.s).bs.length=(ARA a).length/\(∀(i:Nat),i<(gS6 a.s).bs.length->gD (gS6 a.s).bs i=gD (ARA a) i)/\(gS6
 a.s).used=(J3 a).used/\(gS6 a.s).mix=(J3 a).mix/\S7 a)/\StmBQ (6:Int) (gS6 a.s))/\∀(a_5:One),StmBQ (6:Int) (gS6 a.s)->((AMM/\a.m=a.m/\AXI a=(gS6 a.s).bs.length /\
 (∀(i:Nat),i<AXI a->gD (M0 a) i=gD (gS6 a.s).bs i)/\(gS6 a.s).used=(gS6 a.s).used/\(gS6 a.s).mix=(gS6 a.s).mix/\((gS6 a.s).used-(0:Int)).NonNeg)/\(∃(a_7:KS),(true=true/\a_7.x.pl
 = (0:Int)/\a_7.x.tm=hTm a.s/\(↑a_7.k:Int)=Js (AXB a) (1:Int) a.m/\a_7.x.s.bs.length=(ASB a).length/\(∀(i:Nat),Ry i a_7->gD a_7.x.s.bs i=gD (ASB a) i)/\a_7.x.s.used =
 (L3 a).used/\a_7.x.s.mix=(L3 a).mix/\S7 a)/\ARW a a_7)/\(∀(a_7:KS),ARW a a_7->bif D7 a_7 then (∃(a_9:KS),(true=true/\a_9.x.pl=a_7.x.pl/\a_9.x.tm =
 a_7.x.tm/\Bf a_9 a_7/\P0 a_9 a_7/\V4 a_9 a_7/\C9 a_9 a_7/\H6 a_9 a_7/\S7 a)/\AVP a a_9)/\∀(a_9:KS),AVP a a_9->pF a_9/\(((True /\
 (J4->(0:Nat)=(2:Nat)))/\AVU/\P9/\E3/\(16:Nat)<=(140737488355328:Nat))/\G9/\ATE a a_9/\AYA a a_9/\ALK a_9/\AAE a_9/\ABT
 a_9/\AAJ a_9/\AGY a_9/\G9)/\∃(a_11:KS),(true=true/\a_11.x.pl=a_9.x.pl/\a_11.x.tm=a_9.x.tm/\sJ a_11 a_9/\rZ a_11 a_9 a/\rX a_11 a_9 a/\rD
 a_11 a_9 a/\sQ a_11 a_9 a/\AE/\AE/\AE/\AE/\AE/\AC/\AD/\AC/\AD/\AC/\AD/\AC/\AD/\AC /\
 AD/\ZN a.s=ZN a.s/\Ig a.s=Ig a.s/\Lx a.s=Lx a.s/\Ge a.s=Ge a.s/\Ch a.s=Ch a.s/\AC/\AFJ a_11/\AC/\AD/\AC/\AGO a_11/\AC /\
 ALB a_11/\AC/\AD/\AFJ a_11/\(∀(i:Nat),i<a_11.x.ms.length->(gD a_11.x.ms i).pl=a_9.x.pl/\(gD a_11.x.ms i).ht=G8 a_9)/\AGO a_11/\(∀(i:Nat),i <
 a_11.x.t.length->gD a_11.x.t i=a_9.x.tm)/\ALB a_11/\∀(i:Nat),i<a_11.x.st.length->gD a_11.x.st i=AEX a_9 a)/\sR a a_11/\Dr a_11<(100:Nat) else ∃(a_9:One),
 (rF a a_7/\rJ a a_7/\sL a a_7/\rC a a_7/\AE/\AE/\AE/\AE/\AE/\AC/\AD/\AC/\AD/\AC /\
 AD/\AC/\AD/\AC/\AD/\ZN a.s=ZN a.s/\Ig a.s=Ig a.s/\Lx a.s=Lx a.s/\Ge a.s=Ge a.s/\Ch a.s=Ch a.s/\AHX a/\AHX a/\AC/\AD
 /\ ALI a/\ALI a/\AHW a/\AHW a/\AHP a)/\TC a)/\(∀(a_7:KS),sR a a_7->bif D7 a_7 then (bif ALF a_7 then AHZ a_7/\(AFM a
 a_7/\∃(a_9:KS),(true=true/\AKG a_9 a_7/\Z8 a_9 a_7 a/\Bf a_9 a_7/\AAU a_9 a_7 a/\AGH a_9 a_7 a/\ADL a_9 a_7 a/\Z2 a_9 a_7 a/\qP a a_9 a_7)
 /\ AHS a a_9 a_7)/\∀(a_9:KS),AHS a a_9 a_7->true=true/\true=true/\AIZ a_9/\true=true/\bif ADN a_9 then G9/\ABB a_9/\∃(a_11:KS),(true=true/\a_11.x.pl
 = a_9.x.pl/\ACH a_11 a_9/\Bf a_11 a_9/\ABC a_11 a_9/\AKN a_11 a_9/\AAF a_11 a_9/\AHU a_11 a_9/\AE/\AE/\AE/\AE/\AE /\
 AC/\AD/\AC/\AD/\AC/\AD/\AC/\AD/\AC/\AD/\ZN a.s=ZN a.s/\Ig a.s=Ig a.s/\Lx a.s=Lx a.s/\Ge a.s=Ge a.s/\Ch a.s =
 Ch a.s/\AC/\ZZ a_11 a_9/\AC/\AD/\AC/\Ag a_11 a_9/\AC/\Ah a_11 a_9/\AC/\AAO a_11/\ZZ a_11 a_9/\fQ a_11 a_9
 /\ Ag a_11 a_9/\fL a_11 a_9/\Ah a_11 a_9/\fW a_11 a_9/\AAO a_11/\∀(i:Nat),i<a_11.x.z.length->gD a_11.x.z i=ADG a_9)/\ADV a a_11 a_7 else ∃(a_11 :
 KS),(true=true/\a_11.x.pl=a_9.x.pl/\a_11.x.tm=a_9.x.tm/\Bf a_11 a_9/\AAZ a_11 a_9/\ACQ a_11 a_9/\AJZ a_11 a_9/\AEW a_11 a_9/\qP a a_11 a_9)/\rI a
 a_11 a_7 else ∃(a_9:KS),(true=true/\a_9.x.pl=a_7.x.pl/\a_9.x.tm=a_7.x.tm/\Bf a_9 a_7/\P0 a_9 a_7/\V4 a_9 a_7/\C9 a_9 a_7/\H6 a_9 a_7/\qP a a_9 a_7) /\
 rI a a_9 a_7)/\(∀(a_9:KS),rI a a_9 a_7->pF a_9/\qY a_9 a/\∃(a_11:KS),(true=true/\a_11.x.pl=a_9.x.pl/\a_11.x.tm=a_9.x.tm/\sJ a_11 a_9/\rZ a_11 a_9
 a/\rX a_11 a_9 a/\rD a_11 a_9 a/\sQ a_11 a_9 a/\AE/\AE/\AE/\AE/\AE/\AC/\AD/\AC/\AD/\AC/\AD
 /\ AC/\AD/\AC/\AD/\ZN a.s=ZN a.s/\Ig a.s=Ig a.s/\Lx a.s=Lx a.s/\Ge a.s=Ge a.s/\Ch a.s=Ch a.s/\AC/\fJ a_11 a_9/\AC/\AD /\
 AC/\eX a_11 a_9/\AC/\gE a_11 a_9/\AC/\AD/\fJ a_11 a_9/\AGJ a_11 a_9/\eX a_11 a_9/\Z6 a_11 a_9/\gE a_11 a_9 /\
 AHN a_11 a_9 a)/\sR a a_11/\Dr a_11<Dr a_7)/\∀(a_9:KS),ADV a a_9 a_7->pF a_9/\qY a_9 a/\∃(a_11:KS),AHV a_11 a_9 a/\qZ a a_11 /\
 a_11.k<Dr a_7 else ∃(a_9:One),(rF a a_7/\rJ a a_7/\sL a a_7/\rC a a_7/\AE/\AE/\AE/\AE/\AE/\AC/\AD /\
 AC/\AD/\AC/\AD/\AC/\AD/\AC/\AD/\ZN a.s=ZN a.s/\Ig a.s=Ig a.s/\Lx a.s=Lx a.s/\Ge a.s=Ge a.s/\Ch a.s=Ch a.s/\AJT a
 a_7/\ABY a_7/\Z0 a a_7/\AC/\AD/\AHK a a_7/\ADK a_7/\ABL a a_7/\ACJ a a_7/\AIL a_7/\Y8 a a_7/\AHP a)/\TC a) /\
 ∀(a_7:KS),qZ a a_7->bif D7 a_7 then (bif ALF a_7 then AHZ a_7/\(AFM a a_7/\∃(a_9:KS),(true=true/\AKG a_9 a_7/\Z8 a_9 a_7 a/\Bf a_9 a_7 /\
 AAU a_9 a_7 a/\AGH a_9 a_7 a/\ADL a_9 a_7 a/\Z2 a_9 a_7 a/\sW a a_9 a_7)/\ABQ a a_9 a_7)/\∀(a_9:KS),ABQ a a_9 a_7->true=true/\true=true /\
 AIZ a_9/\true=true/\bif ADN a_9 then ((a_9.x.z.length=a_9.x.z.length/\((0:Nat)<a_9.x.z.length->lF))/\lP/\Tl/\oU a_9<=(9223372036854775807:Nat) /\
 oU a_9*(8:Nat)<=(140737488355328:Nat))/\ABB a_9/\∃(a_11:KS),(true=true/\a_11.x.pl=a_9.x.pl/\ACH a_11 a_9/\Bf a_11 a_9/\ABC a_11 a_9/\AKN a_11 a_9 /\
 AAF a_11 a_9/\AHU a_11 a_9/\AE/\AE/\AE/\AE/\AE/\AC/\AD/\AC/\AD/\AC/\AD/\AC/\AD /\
 AC/\AD/\ZN a.s=ZN a.s/\Ig a.s=Ig a.s/\Lx a.s=Lx a.s/\Ge a.s=Ge a.s/\Ch a.s=Ch a.s/\AC/\ZZ a_11 a_9/\AC/\AD/\AC/\Ag a_11
 a_9/\AC/\Ah a_11 a_9/\AC/\AIC a_11 a_9/\ZZ a_11 a_9/\fQ a_11 a_9/\Ag a_11 a_9/\fL a_11 a_9/\Ah a_11 a_9/\fW a_11 a_9 /\
 AIC a_11 a_9/\∀(i:Nat),i<a_11.x.z.length->gD a_11.x.z i=bif decide (i<a_9.x.z.length) then gD a_9.x.z i else ADG a_9)/\fG a a_11 a_7 else ∃(a_11:KS),(true=true/\a_11.x.pl =
 a_9.x.pl/\a_11.x.tm=a_9.x.tm/\Bf a_11 a_9/\AAZ a_11 a_9/\ACQ a_11 a_9/\AJZ a_11 a_9/\AEW a_11 a_9/\sW a a_11 a_9)/\fG a a_11 a_7 else ∃(a_9:KS),
 (true=true/\a_9.x.pl=a_7.x.pl/\a_9.x.tm=a_7.x.tm/\Bf a_9 a_7/\P0 a_9 a_7/\V4 a_9 a_7/\C9 a_9 a_7/\H6 a_9 a_7/\sW a a_9 a_7)/\fG a a_9 a_7) /\
 AEJ a a_7/\AEJ a a_7 else ∃(a_9:One),(rF a a_7/\rJ a a_7/\sL a a_7/\rC a a_7/\AE/\AE/\AE/\AE/\AE/\AC /\
 AD/\AC/\AD/\AC/\AD/\AC/\AD/\AC/\AD/\ZN a.s=ZN a.s/\Ig a.s=Ig a.s/\Lx a.s=Lx a.s/\Ge a.s=Ge a.s/\Ch a.s=Ch a.s /\
 AJT a a_7/\ABY a_7/\Z0 a a_7/\AC/\AD/\AHK a a_7/\ADK a_7/\ABL a a_7/\ACJ a a_7/\AIL a_7/\Y8 a a_7/\(mS a).z.length =
 a_7.x.z.length/\(0:Nat)+a_7.x.z.length<=a_7.x.z.length/\∀(j:Nat),j<(mS a).z.length->gD (mS a).z j=gD a_7.x.z (Un j))/\TC a)/\AGM a/\AGM a):=by kernel_rfl
end Go.Bal
