/- Package level: data; ends of a leg, what it can rise, sums. -/
import Derived.Test.YtbmlgdlbffmjjaaGreatRatA
set_option linter.unusedVariables false
set_option linter.unusedSimpArgs false
namespace Go.Bal
open Go Go.Sym Go.Proofs
structure Lin where
 f:Int
 t:Int
 d:Int
 r:Int
 e:Int
 deriving Inhabited,DecidableEq
def eLin(x:Lin):DVal:=.agg [ES x.f,ES x.t,ES x.d,ES x.r,ES x.e]
def N6(l:List Lin):DVal:=lst 5 l.length λi=>eLin (gD l i)
def vH:DVal->Lin
 | .agg [a,b,c,d,e]=>⟨LR a,LR b,LR c,LR d,LR e⟩
 |_=>default
theorem CF(x:Lin):vH (eLin x)=x:=rfl
theorem CBL(a b c d e:Int):vH (.agg [ES a,ES b,ES c,ES d,ES e])=⟨a,b,c,d,e⟩:=rfl
def Q9(l:List Lin):DVal:=.agg [ES 3,N6 l]
end Go.Bal
namespace Go.Bal.DL
theorem n1(x:Lin):vH (eLin x)=x:=rfl
theorem n3(a b c d e:Int):vH (.agg [ES a,ES b,ES c,ES d,ES e])=Lin.mk a b c d e:=rfl
theorem n2(x:Lin):Lin.mk x.f x.t x.d x.r x.e=x:=rfl
end Go.Bal.DL
namespace Go.Bal
open Go Go.Sym Go.Proofs
def svO(l:List Lin)(g:Nat->Int):AObj:=.nbox [ES 3,N6 l] 169 338 g
def Qp(a b:Nat):Nat:=b+(2+a*13)
def CHC(x:I3):Prop:=AX Try.prog (ann 15 []) BNQ (AF BNQ) (xI3 x) (AC []) (.bool (MN x.a x.b x.c)) [] [] []
theorem CPJ(x:I3):(CHC x)=(WQ (MN (hd2 x) (hd3 x) (hd4 x)) (N4 (hd2 x) (hd3 x)) (hd2 x) (hd4 x)):=by kernel_rfl
theorem APO:AH Try.prog AMR Fg:=MC xI3 hI3 λx _=>Dy (A:=ann 15 []) (ren:=[]) (fz:=[]) CPL (by kernel_rfl) AD (by
 show CHC x;rw[CPJ]<;> delta LI hd2 hd3 hd4 Wo N4 hd7 UD BY HY WQ;unfold MN;by_cases h:x.b<=x.a<;>simp[h])
def dLi1:List AVal->Option Lin
 |[.d (.agg [.v (.int .i64 a),.v (.int .i64 b),.v (.int .i64 c),.v (.int .i64 d),.v (.int .i64 e)])]=>some ⟨a,b,c,d,e⟩
 |_=>none
def xLi1(x:Lin):List AVal:=[.d (eLin x)]
theorem hLi1(xs:List AVal)(a:Lin)(h:dLi1 xs=some a):xs=xLi1 a:=by
 unfold dLi1 at h;split at h<;>cases h;rfl
def BTU(x:Lin):Prop:=AX Try.prog (ann 5 []) BDY (AF BDY) (xLi1 x) (AC []) (.int x.t) [] [] []
abbrev TE:=Lin.t
attribute [go_sem] TE
theorem CDM(x:Lin):(BTU x)=(AJ (TE x)):=by kernel_rfl
def BZI(x:Lin):Prop:=AX Try.prog (ann 5 []) BDW (AF BDW) (xLi1 x) (AC []) (.int x.f) [] [] []
abbrev TC:=Lin.f
attribute [go_sem] TC
theorem CEB(x:Lin):(BZI x)=(AJ (TC x)):=by kernel_rfl
def AZP:=pD dLi1 λx=>.int x.t
def AZV:=pD dLi1 λx=>.int x.f
def vSts(b:Bool):AVal:=match b with
 |true=>.agg [.fn (.func AKY) [] []]
 |false=>.agg [.fn (.func AEC) [] []]
def BOK(b:Bool):Prop:=AX Try.prog (ann 6 []) W0 (AF W0) [.bool b] (AC []) (vSts b) [] [] []
def BFV(_x:One):Prop:=BOK true
def BID(_x:One):Prop:=BOK false
abbrev FT:=True
attribute [go_sem] FT
theorem BQS(_x:One):(BFV _x)=(FT):=by kernel_rfl
theorem BNO(_x:One):(BID _x)=(FT):=by kernel_rfl
theorem CBE:AH Try.prog AKY AZP:=MC xLi1 hLi1 λx _=>Dy (A:=ann 5 []) (ren:=[]) (fz:=[]) CER (by kernel_rfl) AD (by
 show BTU x;rw[CDM]<;> delta AK TE AJ;try simp)
theorem CCE:AH Try.prog AEC AZV:=MC xLi1 hLi1 λx _=>Dy (A:=ann 5 []) (ren:=[]) (fz:=[]) CBV (by kernel_rfl) AD (by
 show BZI x;rw[CEB]<;> delta AK TC AJ;try simp)
structure LgS where
 l:List Lin
 g:Nat->Int
 i:Int
 b:Bool
def lsM(x:Lin)(b:Bool):Int:=bif b then x.t else x.f
def goM(x:Lin)(b:Bool):Int:=bif b then x.f else x.t
def sE(x:Lin)(b:Bool):Int:=bif b then wr (x.e-x.r) else wr (x.e+x.r)
def xLg(i:Int)(b:Bool):List AVal:=[.bptr 100 0,.d (.agg [ES i,AWM b])]
def d_lg:List AVal->Heap->Option (LgS×List (Nat×Nat)×List Nat)
 |[.bptr id _,.d (.agg [.v (.int .i64 i),.v (.bool b)])],H=>match H id with
  | .live (.nbox [_,.list _ n f _] _ _ g)=>some (⟨WA n λj=>vH (f j),g,i,b⟩,[(100,id)],[])
  |_=>none
 |_,_=>none
def C_lg(val:LgS->Int):Ctr:={ ro:=[100],α:=LgS,xs:=λa=>xLg a.i a.b,L:=λa=>[(100,svO a.l a.g)],val:=λa=>.int (val a),keep:=λa=>[(100,.live (svO a.l a.g))],pre:=λa=>[0<=a.i/\a.i<a.l.length] }
def C_lStart:Ctr:=C_lg λa=>lsM (gD a.l a.i.toNat) a.b
def C_lGoal:Ctr:=C_lg λa=>goM (gD a.l a.i.toNat) a.b
def C_lRise:Ctr:=C_lg λa=>sE (gD a.l a.i.toNat) a.b
def BBZ:Sym.Spec:=J5 λxs=>match xs with
 |[.d (.v (.bool true))]=>some (vSts true,[])
 |[.d (.v (.bool false))]=>some (vSts false,[])
 |_=>none
def A_lSt:Ann:={ ann 19 [(xQ,BBZ),(AKY,AZP),(AEC,AZV)] with E:=[100] }
def BJU:Ann:={ ann 20 [(xQ,BBZ),(AKY,AZP),(AEC,AZV)] with E:=[100] }
def CJO:Ann:={ ann 27 [] with E:=[100] }
def svK(l:List Lin)(g:Nat->Int):List (Nat×HCell):=[(100,.live (svO l g))]
def ALZ(a:LgS):Prop:=AX Try.prog A_lSt uD (AF uD) (xLg a.i true) (AC [(100,svO a.l a.g)]) (.int (gD a.l a.i.toNat).t) (svK a.l a.g) [] []
abbrev hd91:=LgS.i
abbrev OI:=@List.length Lin
abbrev Hu:=LgS.l
abbrev Fh:=@gD Lin instInhabitedLin
abbrev MW:=Int.toNat
abbrev ZM:=Lin.d
abbrev ZJ:=Lin.r
abbrev ZL:=Lin.e
abbrev Wc:=@List.cons DVal
abbrev Nm:=@List.nil DVal
abbrev HA:=@HAdd.hAdd Nat Nat Nat (@instHAdd Nat instAddNat)
abbrev rF:=LgS.g
abbrev CM a b c:=AG a (AJ b) c
abbrev FQ a b(c:Nat->Prop) d e:=AI a b (AE c) d e
abbrev AT:=BO 3
abbrev Gb a(b:Nat->Prop) c d:=FQ AT a b c d
abbrev CH:=AR 338
abbrev Uc a(b:Nat->Prop) c:=Gb a b CH c
abbrev Gw a(b:Nat->Prop)(c:Nat->Prop):=Uc a b (AE c)
abbrev TG a b c:=BA (CV a b) c
abbrev Af a b c d:=TG a b (AO b c d)
abbrev Hz a b:=Wc (ES a) b
abbrev TZ a:=(@List.length DVal) (Hz 3 (Wc (N6 a) Nm))
abbrev Aq a:=HA (TZ a) 169
abbrev Iq a b c:=Af (TZ a) b (Aq a) c
abbrev TK a b c:=Iq a b (AJ c)
abbrev LF a b c d e f g:=AO a b (AI c d e f g)
abbrev FV a b c d e f g:=LF a (OI b) c d e f g
abbrev JV a b:=ZL (Fh a b)
abbrev YH a b:=AJ (JV a b)
abbrev JX a b:=ZJ (Fh a b)
abbrev YZ a b:=AJ (JX a b)
abbrev FL a b:=ZM (Fh a b)
abbrev YV a b:=AJ (FL a b)
abbrev EN a b:=TE (Fh a b)
abbrev YF a b:=AJ (EN a b)
abbrev IV a b:=TC (Fh a b)
abbrev YN a b:=AJ (IV a b)
abbrev NO a b:=FV a b (YN b a) (YF b a) (YV b a) (YZ b a) (YH b a)
abbrev JC a:=AR (OI a)
abbrev Xa a:=JC (Hu a)
abbrev Il a:=MW (hd91 a)
attribute [go_sem] hd91 OI Hu Fh MW ZM ZJ ZL Wc Nm HA rF CM FQ AT Gb CH Uc Gw TG Af Hz TZ Aq Iq TK LF FV JV YH JX YZ FL YV EN YF IV YN NO JC Xa Il
theorem BDF(a:LgS):(ALZ a)=(CM (DT (hd91 a) (OI (Hu a))) (EN (Hu a) (Il a)) (Gw (Xa a) (λi=>NO i (Hu a)) (λi=>TK (Hu a) i (rF a i)))):=by kernel_rfl
def AOH(a:LgS):Prop:=AX Try.prog A_lSt uD (AF uD) (xLg a.i false) (AC [(100,svO a.l a.g)]) (.int (gD a.l a.i.toNat).f) (svK a.l a.g) [] []
theorem BAI(a:LgS):(AOH a)=(CM (DT (hd91 a) (OI (Hu a))) (IV (Hu a) (Il a)) (Gw (Xa a) (λi=>NO i (Hu a)) (λi=>TK (Hu a) i (rF a i)))):=by kernel_rfl
def AZD(a:LgS):Prop:=AX Try.prog BJU J3 (AF J3) (xLg a.i true) (AC [(100,svO a.l a.g)]) (.int (gD a.l a.i.toNat).f) (svK a.l a.g) [] []
theorem BLD(a:LgS):(AZD a)=(CM (DT (hd91 a) (OI (Hu a))) (IV (Hu a) (Il a)) (Gw (Xa a) (λi=>NO i (Hu a)) (λi=>TK (Hu a) i (rF a i)))):=by kernel_rfl
def AXZ(a:LgS):Prop:=AX Try.prog BJU J3 (AF J3) (xLg a.i false) (AC [(100,svO a.l a.g)]) (.int (gD a.l a.i.toNat).t) (svK a.l a.g) [] []
theorem BKE(a:LgS):(AXZ a)=(CM (DT (hd91 a) (OI (Hu a))) (EN (Hu a) (Il a)) (Gw (Xa a) (λi=>NO i (Hu a)) (λi=>TK (Hu a) i (rF a i)))):=by kernel_rfl
def BHJ(a:LgS):Prop:=AX Try.prog CJO APE (AF APE) (xLg a.i a.b) (AC [(100,svO a.l a.g)]) (.int (sE (gD a.l a.i.toNat) a.b)) (svK a.l a.g) [] []
abbrev GO a b c d:=And a (EZ b c d)
abbrev AV a b c d e f:=And a (AI b c d e f)
abbrev RE a:=AE (λi=>NO i a)
attribute [go_sem] GO AV RE
theorem BWI(a:LgS):(BHJ a)=(GO (DT (hd91 a) (OI (Hu a))) (LgS.b a) (AV (AK (sE (Fh (Hu a) (Il a)) (LgS.b a)) (IR (JV (Hu a) (Il a)) (JX (Hu a) (Il a)))) AT (Xa a) (RE (Hu a)) CH (AE (λi=>TK (Hu a) i (rF a i)))) (AV (AK (sE (Fh (Hu a) (Il a)) (LgS.b a)) (DK (JV (Hu a) (Il a)) (JX (Hu a) (Il a)))) AT (Xa a) (RE (Hu a)) CH (AE (λi=>TK (Hu a) i (rF a i))))):=by kernel_rfl
structure LmS where
 l:List Lin
 g:Nat->Int
 m:Int
def d_lm:List AVal->Heap->Option (LmS×List (Nat×Nat)×List Nat)
 |[.bptr id _,.d (.v (.int .i64 m))],H=>match H id with
  | .live (.nbox [_,.list _ n f _] _ _ g)=>some (⟨WA n λj=>vH (f j),g,m⟩,[(100,id)],[])
  |_=>none
 |_,_=>none
def CSP(a b:Nat):AVal:=.fn (.func mO) [] [.bptr a 0,.bptr b 0]
def C_lLegs:Ctr:={ ro:=[100],α:=LmS,xs:=λa=>[.bptr 100 0,.int a.m],L:=λa=>[(100,svO a.l a.g)],val:=λ_=>CSP 0 1,keep:=λa=>[(100,.live (svO a.l a.g)),(0,.live (.box [.bptr 100 0])),(1,.live (.box [.int a.m]))] }
def BHD:Ann:={ ann 6 [] with E:=[100] }
def BIB(a:LmS):Prop:=AX Try.prog BHD AQM (AF AQM) (C_lLegs.xs a) (AC (C_lLegs.L a)) (C_lLegs.val a) (C_lLegs.keep a) [(0,1000),(1,1016)] []
theorem BRB(a:LmS):(BIB a)=(AV AT (JC (LmS.l a)) (RE (LmS.l a)) CH (AE (λi=>TK (LmS.l a) i (LmS.g a i))) (AJ (LmS.m a))):=by kernel_rfl
def oP(l:List Int):Int:=l.foldl (λa x=>wr (a+x)) 0
def C_lSum:Ctr:={ α:=List Int,xs:=λl=>[.d (IM l)],L:=λ_=>[],val:=λl=>.int (oP l),keep:=λ_=>[],pre:=λl=>[l.length<1073741824] }
def d_Is:List AVal->Heap->Option (List Int×List (Nat×Nat)×List Nat)
 |[a],H=>match I7 a H with
  |some (l,f)=>some (l,[],f)
  |none=>none
 |_,_=>none
def AQR(l:List Int):Ann:={ ann 17 [] with loops:=λid=>if id=3 then some [{ α:=Nat,dflt:=0,T:=λk=>⟨[(3,.int (oP (l.take k))),(6,.d (IM l)),(7,.int l.length),(8,.int k)],[]⟩,inv:=λk=>k<=l.length,meas:=λk=>l.length-k }] else none }
def BPC(l:List Int):Prop:=AX Try.prog (AQR l) BAG (AF BAG) (C_lSum.xs l) (AC []) (C_lSum.val l) [] [] []
abbrev CG:=@Exists Nat
abbrev NZ:=Nat.le
abbrev EX a(b:Nat->Prop):=And a (AE b)
abbrev TS(a:Nat->Prop)(b:Nat->Prop):=EX (CG a) b
abbrev eG a b:=oP (yB a b)
attribute [go_sem] CG NZ EX TS eG
theorem CAM(l:List Int):(BPC l)=(TS (λi=>And (AI (CQ (eG i l)) (HS l) (EG l) (PC l) (BD i)) (NZ i (FI l))) (λi=>HF (NZ i (FI l)) i (FI l) (BE i (FI l)) (CG (λj=>FB (AI (AK (eG j l) (DK (eG i l) (IQ l i))) (HS l) (EG l) (PC l) (AU j i)) (NZ j (FI l)) (FI l) j i)) (AK (oP l) (eG i l)))):=by kernel_rfl
theorem CAG:AH Try.prog xQ BBZ:=AAD λxs v p h _=>by
 split at h
 ·cases h;exact Dy (A:=ann 6 []) (ren:=[]) (fz:=[]) AJY (by kernel_rfl) AD (by
   show BFV default;rw[BQS]<;> delta FT;trivial)
 ·cases h;exact Dy (A:=ann 6 []) (ren:=[]) (fz:=[]) AJY (by kernel_rfl) AD (by
   show BID default;rw[BNO]<;> delta FT;trivial)
 ·cases h
theorem ADF:GOk Try.prog A_lSt.Γ:=AA CAG (AA CBE (AA CCE AD))
theorem AMV:AH Try.prog N2 (C_lStart.spec d_lg):=Ctr.spec_ok (C:=C_lStart) (λ(a:LgS) h=>by
 have h:0<=a.i/\a.i<a.l.length:=h
 obtain⟨l,g,i,b⟩:=a
 cases b with
 |true=>exact Dy (A:=A_lSt) (ren:=[]) (fz:=[]) ALY (by kernel_rfl) ADF (by show ALZ ⟨l,g,i,true⟩;rw[BDF]<;> delta AK AN AE BA BN BH CV DC ER FD TE TC hd91 OI Hu Fh MW ZM ZJ ZL Wc Nm HA rF AG AI AO AJ AR CM BG BO Hz EB DR LF JV JX AT DT IV EN TZ FV FL TG Aq Af JC YV Iq CH YF YN FQ YZ YH TK NO Il Gb Uc Gw Xa;simp only[CC,CU,CF];exact h)
 |false=>exact Dy (A:=A_lSt) (ren:=[]) (fz:=[]) ALY (by kernel_rfl) ADF (by show AOH ⟨l,g,i,false⟩;rw[BAI]<;> delta AK AN AE BA BN BH CV DC ER FD TE TC hd91 OI Hu Fh MW ZM ZJ ZL Wc Nm HA rF AG AI AO AJ AR CM BG BO Hz EB DR LF JV JX AT DT IV EN TZ FV FL TG Aq Af JC YV Iq CH YF YN FQ YZ YH TK NO Il Gb Uc Gw Xa;simp only[CC,CU,CF];exact h)) _
theorem AXA:AH Try.prog ACD (C_lGoal.spec d_lg):=Ctr.spec_ok (C:=C_lGoal) (λ(a:LgS) h=>by
 have h:0<=a.i/\a.i<a.l.length:=h
 obtain⟨l,g,i,b⟩:=a
 cases b with
 |true=>exact Dy (A:=BJU) (ren:=[]) (fz:=[]) AVS (by kernel_rfl) ADF (by show AZD ⟨l,g,i,true⟩;rw[BLD]<;> delta AK AN AE BA BN BH CV DC ER FD TE TC hd91 OI Hu Fh MW ZM ZJ ZL Wc Nm HA rF AG AI AO AJ AR CM BG BO Hz EB DR LF JV JX AT DT IV EN TZ FV FL TG Aq Af JC YV Iq CH YF YN FQ YZ YH TK NO Il Gb Uc Gw Xa;simp only[CC,CU,CF];exact h)
 |false=>exact Dy (A:=BJU) (ren:=[]) (fz:=[]) AVS (by kernel_rfl) ADF (by show AXZ ⟨l,g,i,false⟩;rw[BKE]<;> delta AK AN AE BA BN BH CV DC ER FD TE TC hd91 OI Hu Fh MW ZM ZJ ZL Wc Nm HA rF AG AI AO AJ AR CM BG BO Hz EB DR LF JV JX AT DT IV EN TZ FV FL TG Aq Af JC YV Iq CH YF YN FQ YZ YH TK NO Il Gb Uc Gw Xa;simp only[CC,CU,CF];exact h)) _
theorem AZM:AH Try.prog ADC (C_lRise.spec d_lg):=PU C_lRise (λ_=>CJO) [] [] BTG (λ_=>by kernel_rfl) (λ_=>AD) (λ(a:LgS) h=>by
 have h:0<=a.i/\a.i<a.l.length:=h
 show BHJ a;rw[BWI]<;> delta EZ AK AN AE BA BN BH CV DC ER NC TD No FD TE TC hd91 OI Hu Fh MW ZM ZJ ZL Wc Nm HA rF CS AG AI AO AJ AR IR BG DK BO Hz EB DR LF JV JX AV AT DT IV EN TZ FV FL TG Aq Af JC YV Iq CH YF YN YZ YH TK NO RE GO Il Xa;simp only[CC,CU,CF]
 refine⟨h,λhb=>?_,λhb=>?_⟩<;>rw[hb]<;>rfl) (λ_=>RU rfl rfl) _
theorem AXQ:AH Try.prog ACY (C_lLegs.spec d_lm):=PU C_lLegs (λ_=>BHD) [(0,1000),(1,1016)] [] BUS (λ_=>by kernel_rfl) (λ_=>AD) (λ(a:LmS) _=>by
 show BIB a;rw[BRB]<;> delta AK AN AE BA BN CV FD TE TC OI Fh ZM ZJ ZL Wc Nm HA AG AI AO AJ AR BO Hz LF JV JX AV AT IV EN TZ FV FL TG Aq Af JC YV Iq CH YF YN YZ YH TK NO RE;simp only[CC,CU,CF]) (λ_=>RU rfl rfl) _
theorem AOJ(l:List Int)(k:Nat)(h:k<l.length):oP (l.take (k+1))=wr (oP (l.take k)+gD l k):=by
 unfold oP
 rw[List.take_add_one,List.getElem?_eq_getElem h,Option.toList_some,List.foldl_append]
 simp[gD,List.getD_eq_getElem?_getD,h]
theorem CEL:AH Try.prog AZQ (C_lSum.spec d_Is):=PU C_lSum AQR [] [] CCI (λ_=>by kernel_rfl) (λ_=>AD) (λ(l:List Int) h=>by
 have h:l.length<1073741824:=h
 show BPC l;rw[CAM]<;> delta NX EZ AK AN FI AE BA BN IQ BH yB DC ER NC TD KE CG NZ CS AG AI AO AJ AR BG DK GJ HD EJ EB DR EX HS FP EV DT Mz JD AU EY PI BE EG HX LA HH BD HF SA CQ TM FB PC TS eG;simp only[CC,CU,CF]
 refine⟨⟨0,⟨rfl,rfl⟩,Nat.zero_le _⟩,λk hk=>⟨λhlt=>?_,λhge=>?_⟩⟩
 ·have hlt:k<l.length:=by omega
  exact⟨⟨by omega,by omega⟩,k+1,⟨AOJ l k hlt,(GH (by omega)).symm⟩,by omega,by omega⟩
 ·have:k=l.length:=by omega
  rw[this,List.take_length]) (λ_=>RU rfl rfl) _
end Go.Bal
