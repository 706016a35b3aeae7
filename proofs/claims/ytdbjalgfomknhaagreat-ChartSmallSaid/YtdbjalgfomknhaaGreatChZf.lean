/- Package chart, with the reference: Truths with all its errors; what it returns can be. -/
import Derived.Test.YtdbjalgfomknhaaGreatChZe
import Derived.Test.YtdbjalgfomknhaaGreatChL
set_option linter.unusedVariables false
set_option linter.unusedSimpArgs false
namespace Go.Bal
open Go Go.Sym Go.Proofs
def truF(x:TrI):Int:=bif XV x.a != 0 then XV x.a else bif !PN x.m 0 (wr ((x.a.c.ms.length:Int)-1)) then 2 else 6
def De(x:TrI):Tru×Int:=bif XV x.a != 0 then (nilT,XV x.a) else bif !PN x.m 0 (wr ((x.a.c.ms.length:Int)-1)) then (nilT,2) else bif !(JD (FZ x.a)).2 then (nilT,6) else bif (xN x).all Od then (zE x,0) else (nilT,5)
def C_Tru:Ctr:={ α:=TrI,xs:=xTrI,val:=λx=>.tup [.d (eTru (De x).1),.int (De x).2],keep:=λ_=>[],pre:=λx=>[x.a.c.ms.length<4611686018427387904/\x.a.c.ns.length<4611686018427387904/\x.a.z.length<4611686018427387904] }
def CEO:Ann:={ ann 113 [(Zw,C_beg.spec B6),(n_in,s_in),(mQ,C_times.spec sX)] with cut:=λid=>if id=9 then some [] else none }
def CAH(x:TrI):Prop:=ES Try.prog CEO bJ (AJ bJ) (xTrI x) (AD []) (.tup [.d (eTru nilT),.int (truF x)]) [] [] []
abbrev AIT(x:TrI):List Mk:=NK x.a.c.ms.length λ(i:Nat)=>gD x.a.c.ms i
abbrev ALD(x:TrI):Nat:=(AIT x).length
abbrev BCL(x:TrI)(i:Nat):Mk:=gD (AIT x) i
abbrev AKD(x:TrI):List Nt:=NK x.a.c.ns.length λ(i:Nat)=>gD x.a.c.ns i
abbrev AHT(x:TrI):Nat:=(AKD x).length
abbrev AIN(x:TrI)(i:Nat):Nt:=gD (AKD x) i
abbrev BBM(x:TrI)(i:Nat):Span:=(AIN x i).t
abbrev AYH(x:TrI)(i:Nat):Span:=(AIN x i).s
abbrev AJI(x:TrI):List Int:=NK x.a.z.length λ(i:Nat)=>gD x.a.z i
abbrev AIA(x:TrI):Nat:=(AJI x).length
abbrev AUC(x:TrI):Cht:=Cht.mk x.a.c.p x.a.c.base x.a.c.scale x.a.c.off (AIT x) (AKD x)
abbrev AQY(x:TrI):CZ:=CZ.mk (AUC x) (AJI x)
abbrev AQH(x:TrI):Int:=XV (AQY x)
abbrev UF:Prop:=0=0
abbrev mV(x:TrI):Dk:=FZ (AQY x)
abbrev gV(x:TrI):Cht:=(mV x).c
abbrev AAD(x:TrI):Span:=(gV x).p
abbrev ANH(x:TrI):Int:=(AAD x).lo
abbrev AQG(x:TrI):Prop:=ANH x=ANH x
abbrev ATN(x:TrI):Int:=(AAD x).hi
abbrev AOT(x:TrI):Prop:=ATN x=ATN x
abbrev ADC(x:TrI):Int:=(gV x).base
abbrev ATT(x:TrI):Prop:=ADC x=ADC x
abbrev ABZ(x:TrI):Int:=(gV x).scale
abbrev ANK(x:TrI):Prop:=ABZ x=ABZ x
abbrev ABA(x:TrI):Int:=(gV x).off
abbrev AOH(x:TrI):Prop:=ABA x=ABA x
abbrev AMO(x:TrI):List Mk:=(gV x).ms
abbrev zU(x:TrI):Nat:=(AMO x).length
abbrev ADL(x:TrI)(i:Nat):Mk:=gD (AMO x) i
abbrev AAY(x:TrI):List Mk:=NK (zU x) λ(i:Nat)=>ADL x i
abbrev cZ(x:TrI):Nat:=(AAY x).length
abbrev ATF(x:TrI)(i:Nat):Mk:=gD (AAY x) i
abbrev ATL(x:TrI)(i:Nat):Int:=(ATF x i).pl
abbrev AMC(x:TrI)(i:Nat):Int:=(ADL x i).pl
abbrev AMS(x:TrI)(i:Nat):Int:=(ATF x i).ht
abbrev ARN(x:TrI)(i:Nat):Int:=(ADL x i).ht
abbrev yB(x:TrI):List Nt:=(gV x).ns
abbrev yW(x:TrI):Nat:=(yB x).length
abbrev A2(x:TrI)(i:Nat):Nt:=gD (yB x) i
abbrev nG(x:TrI):List Nt:=NK (yW x) λ(i:Nat)=>A2 x i
abbrev ADM(x:TrI):Nat:=(nG x).length
abbrev ABL(x:TrI)(i:Nat):Nt:=gD (nG x) i
abbrev APQ(x:TrI)(i:Nat):Int:=(ABL x i).mi
abbrev ANT(x:TrI)(i:Nat):Int:=(A2 x i).mi
abbrev ARG(x:TrI)(i:Nat):Span:=(ABL x i).t
abbrev ATS(x:TrI)(i:Nat):Int:=(ARG x i).lo
abbrev AUB(x:TrI)(i:Nat):Span:=(A2 x i).t
abbrev ATK(x:TrI)(i:Nat):Int:=(AUB x i).lo
abbrev APE(x:TrI)(i:Nat):Int:=(ARG x i).hi
abbrev ALV(x:TrI)(i:Nat):Int:=(AUB x i).hi
abbrev ATV(x:TrI)(i:Nat):Span:=(ABL x i).s
abbrev AQX(x:TrI)(i:Nat):Int:=(ATV x i).lo
abbrev ANF(x:TrI)(i:Nat):Span:=(A2 x i).s
abbrev ANA(x:TrI)(i:Nat):Int:=(ANF x i).lo
abbrev ARS(x:TrI)(i:Nat):Int:=(ATV x i).hi
abbrev ART(x:TrI)(i:Nat):Int:=(ANF x i).hi
abbrev ALX(x:TrI)(i:Nat):Bool:=(mV x).sp i
abbrev ASP(x:TrI):Prop:=∀(i:Nat),i<40->ALX x i=ALX x i
abbrev ABY(x:TrI)(n:Int):Bool:=hasN (nG x) n
abbrev ATE(x:TrI)(n:Int):Bool:=hasN (yB x) n
abbrev APX(x:TrI)(n:Int):Int:=(mV x).st n
abbrev AON(x:TrI):Prop:=∀(n:Int),APX x n=APX x n
abbrev ACK(x:TrI)(n:Int):Nt:=ntOf (nG x) n
abbrev AMW(x:TrI)(n:Int):Int:=(ACK x n).mi
abbrev AAQ(x:TrI)(n:Int):Nt:=ntOf (yB x) n
abbrev AOE(x:TrI)(n:Int):Int:=(AAQ x n).mi
abbrev AQF(x:TrI)(n:Int):Span:=(ACK x n).t
abbrev ASN(x:TrI)(n:Int):Int:=(AQF x n).lo
abbrev APF(x:TrI)(n:Int):Span:=(AAQ x n).t
abbrev ANO(x:TrI)(n:Int):Int:=(APF x n).lo
abbrev AST(x:TrI)(n:Int):Int:=(AQF x n).hi
abbrev AQE(x:TrI)(n:Int):Int:=(APF x n).hi
abbrev AOO(x:TrI)(n:Int):Span:=(ACK x n).s
abbrev AQP(x:TrI)(n:Int):Int:=(AOO x n).lo
abbrev ARE(x:TrI)(n:Int):Span:=(AAQ x n).s
abbrev AMI(x:TrI)(n:Int):Int:=(ARE x n).lo
abbrev AQM(x:TrI)(n:Int):Int:=(AOO x n).hi
abbrev AQR(x:TrI)(n:Int):Int:=(ARE x n).hi
theorem COH(x:TrI):(CAH x)=((x.a.c.p.lo=x.a.c.p.lo/\x.a.c.p.hi=x.a.c.p.hi/\x.a.c.base=x.a.c.base/\x.a.c.scale=x.a.c.scale/\x.a.c.off=x.a.c.off/\ALD x=x.a.c.ms.length/\(∀(i:Nat),i
 < ALD x->(BCL x i).pl=(gD x.a.c.ms i).pl/\(BCL x i).ht=(gD x.a.c.ms i).ht)/\AHT x=x.a.c.ns.length/\(∀(i:Nat),i<AHT x->(AIN x i).mi=(gD x.a.c.ns i).mi/\(BBM x i).lo =
 (gD x.a.c.ns i).t.lo/\(BBM x i).hi=(gD x.a.c.ns i).t.hi/\(AYH x i).lo=(gD x.a.c.ns i).s.lo/\(AYH x i).hi=(gD x.a.c.ns i).s.hi)/\AIA x=x.a.z.length/\(∀(i:Nat),i<AIA x->gD
 (AJI x) i=gD x.a.z i)/\(ALD x<4611686018427387904/\AHT x<4611686018427387904/\AIA x<4611686018427387904)/\AP (AUC x)=0)/\bif AQH x != 0 then UF/\UF /\
 UF/\UF/\UF/\UF/\truF x=AQH x else bif !PN x.m 0 (IntKind.i64.wrap ((↑x.a.c.ms.length:Int)-1)) then UF/\UF/\UF/\UF/\UF/\UF/\truF
 x=2 else (AQG x/\AOT x/\ATT x/\ANK x/\AOH x/\cZ x=zU x/\(∀(i:Nat),i<cZ x->ATL x i=AMC x i/\AMS x i=ARN x i)/\ADM x =
 yW x/\(∀(i:Nat),i<ADM x->APQ x i=ANT x i/\ATS x i=ATK x i/\APE x i=ALV x i/\AQX x i=ANA x i/\ARS x i=ART x i)/\ASP x /\
 E6=E6/\(∀(n:Int),ABY x n=ATE x n)/\AON x/\(∀(n:Int),AMW x n=AOE x n/\ASN x n=ANO x n/\AST x n=AQE x n/\AQP x n=AMI x n /\
 AQM x n=AQR x n)/\AQG x/\AOT x/\ATT x/\ANK x/\AOH x/\zU x=cZ x/\(∀(i:Nat),i<zU x->AMC x i=ATL x i/\ARN x i=AMS
 x i)/\yW x=ADM x/\(∀(i:Nat),i<yW x->ANT x i=APQ x i/\ATK x i=ATS x i/\ALV x i=APE x i/\ANA x i=AQX x i/\ART x i=ARS
 x i)/\ASP x/\E6=E6/\(∀(n:Int),ATE x n=ABY x n)/\AON x/\(∀(n:Int),AOE x n=AMW x n/\ANO x n=ASN x n/\AQE x n=AST x n/\AMI x n =
 AQP x n/\AQR x n=AQM x n)/\1<=cZ x/\cZ x<=40/\∀(j:Int),ABY x j=true->0<=j/\j<(↑(cZ x):Int))/\(bif !(JD (Dk.mk (Cht.mk (AAD x) (ADC x)
 (ABZ x) (ABA x) (AAY x) (nG x)) (mV x).st (mV x).sp)).snd then UF/\UF/\UF/\UF/\UF/\UF/\truF x=6 else False)/\True):=by
 kernel_rfl
def BYX:Ann:={ ann 113 [(Zw,C_begX.spec B6)] with cut:=λid=>if id=6 then some [] else none }
def CHM(x:TrI):Prop:=ES Try.prog BYX bJ (AJ bJ) (xTrI x) (AD []) (.tup [.d (eTru nilT),.int (XV x.a)]) [] [] []
theorem CKR(x:TrI):(CHM x)=(AH (Ag (MS x) (YJ (MS x) (BW (MS x)) (DK (MS x)) (λi=>AT i (MS x) (AM (MS x) i) (AN (MS x) i) (AS (MS x) i) (AC (MS x) i) (AL (MS x) i) (AR (MS x) i) (AE (MS x) i)) (HL (Mj x)) (λi=>QE i (Mj x)) (Dl (RQ (MS x)) (MS x) (PG (Mj x))) (fT (MS x)))) (Ht (Sg (Kh x)) AG (Vt (Xa (Yq (iN x)) (Kh x))) VS) IP):=by kernel_rfl
theorem BRN:∀(l:List Mk) (a:Int),A6 a l=0∨A6 a l=30∨A6 a l=9
 |[],_=>.inl rfl
 |m :: r,a=>by
  unfold A6
  cases (bif !PN m.pl 0 10000 then true else !PN m.ht 0 1000) with
  |true=>exact .inr (.inl rfl)
  |false=>
   cases decide (m.pl<=a) with
   |true=>exact .inr (.inr rfl)
   |false=>exact BRN r m.pl
theorem BWO(c:Cht):AP c≠6:=by
 have hd:Gh c=0∨Gh c=3∨Gh c=30:=by
  unfold Gh
  cases (bif !PN c.ms.length 1 40 then true else decide ((c.ns.length:Int)>20)) with
  |true=>exact .inr (.inl rfl)
  |false=>
   cases (bif (bif (bif !Hx c.p 1 600 then true else !PN c.base (-1000000) 1000000) then true else !PN c.scale 0 1000) then true else !PN c.off 0 1000) with
   |true=>exact .inr (.inr rfl)
   |false=>exact .inl rfl
 have hm:=BRN c.ms (-1)
 unfold AP
 rcases hd with e | e | e<;>rcases hm with m | m | m<;>rw[e]<;>try rw[m]
 all_goals first
  |(intro h;cases h;done)
  |skip
 cases (!c.ns.all λn=>Du n c.ms.length) with
 |true=>intro h;cases h
 |false=>cases Lu (J3 c.ns) c.ns.length<;>(intro h;cases h)
theorem BBZ(a:CZ):XV a≠0/\DJ a=XV a/\DJ a≠6∨XV a=0/\AP a.c=0/\(JD (FZ a)).2=false/\DJ a=6∨XV a=0/\AP a.c=0/\(JD (FZ a)).2=true/\DJ a=0:=by
 by_cases h0:AP a.c=0
 ·cases hz:N7 a with
  |false=>
   left
   have e1:XV a=2:=by unfold XV;rw[h0,hz];rfl
   have e2:DJ a=2:=by unfold DJ;rw[h0,hz];rfl
   rw[e1,e2];decide
  |true=>
   right
   have e1:XV a=0:=by unfold XV;rw[h0,hz];rfl
   cases ht:(JD (FZ a)).2 with
   |false=>
    left
    have e2:DJ a=6:=by unfold DJ;rw[h0,hz,ht];rfl
    exact⟨e1,h0,rfl,e2⟩
   |true=>
    right
    have e2:DJ a=0:=by unfold DJ;rw[h0,hz,ht];rfl
    exact⟨e1,h0,rfl,e2⟩
 ·left
  have h':(AP a.c==0)=false:=by simpa using h0
  have e1:XV a=AP a.c:=by unfold XV;rw[h'];rfl
  have e2:DJ a=AP a.c:=by unfold DJ;rw[h'];rfl
  exact⟨by rw[e1];exact h0,by rw[e1,e2],by rw[e2];exact BWO _⟩
theorem CVK(x:TrI)(h:x.a.c.ms.length<4611686018427387904/\x.a.c.ns.length<4611686018427387904/\x.a.z.length<4611686018427387904)(h0:AP x.a.c=0)(hf:XV x.a≠0∨PN x.m 0 (wr ((x.a.c.ms.length:Int)-1))=false∨(JD (FZ x.a)).2=false):CAH x:=by
 obtain⟨_,hm,_⟩:=PR h0
 rw[COH];delta AIT ALD BCL AKD AHT AIN BBM AYH AJI AIA AUC AQY AQH UF mV gV AAD ANH AQG ATN AOT ADC ATT ABZ ANK ABA AOH AMO zU ADL AAY cZ ATF ATL AMC AMS ARN yB yW A2 nG ADM ABL APQ ANT ARG ATS AUB ATK APE ALV ATV AQX ANF ANA ARS ART ALX ASP ABY ATE APX AON ACK AMW AAQ AOE AQF ASN APF ANO AST AQE AOO AQP ARE AMI AQM AQR;simp only[CC,eq_self,implies_true,forall_const,FR,Ee,Uk,bD]
 refine⟨⟨h,h0⟩,λh1=>?_,λh1=>⟨λh2=>?_,λh2=>⟨⟨hm.1,hm.2,(Zu h0).1⟩,λh3=>?_,λh3=>?_⟩⟩⟩
 ·unfold truF;rw[h1];rfl
 ·unfold truF wr;rw[h1,h2];rfl
 ·unfold truF wr;rw[h1,h2];rfl
 ·rcases hf with q | q | q
  ·have:XV x.a=0:=by simpa using h1
   exact q this
  ·unfold wr at q;rw[h2] at q;cases q
  ·rw[h3] at q;cases q
theorem CWM:AW Try.prog W8 (C_Tru.spec dTrI):=okT C_Tru (λ(x:TrI) h=>by
 have h:x.a.c.ms.length<4611686018427387904/\x.a.c.ns.length<4611686018427387904/\x.a.z.length<4611686018427387904:=h
 show FnT Try.prog W8 (xTrI x) (AD []) (.tup [.d (eTru (De x).1),.int (De x).2]) []
 have err:∀e,AP x.a.c=0->(XV x.a≠0∨PN x.m 0 (wr ((x.a.c.ms.length:Int)-1))=false∨(JD (FZ x.a)).2=false)->truF x=e->FnT Try.prog W8 (xTrI x) (AD []) (.tup [.d (eTru nilT),.int e]) []:=λe h0 hf he=>by
  rw[<-he]
  exact Wk (A:=CEO) (L:=[]) (keep:=[]) (ren:=[]) (fz:=[]) ACL (by kernel_rfl) (AA ASO (AA R9 (AA R5 AK))) (CVK x h h0 hf)
 rcases BBZ x.a with⟨b1,b2,_⟩ | ⟨b1,b2,b3,b4⟩ | ⟨b1,b2,b3,b4⟩
 ·have hb:(XV x.a != 0)=true:=by simpa using b1
  have e:De x=(nilT,XV x.a):=by unfold De;rw[hb];rfl
  rw[e]
  by_cases h0:AP x.a.c=0
  ·exact err _ h0 (.inl b1) (by unfold truF;rw[hb];rfl)
  ·refine Wk (A:=BYX) (L:=[]) (keep:=[]) (ren:=[]) (fz:=[]) ACL (by kernel_rfl) (AA BGC AK) ?_
   show CHM x;rw[CKR]<;> delta BH BK DY EM EO CH AB CJ CE AY FV EB FX EC GY GX GR GG DV FO FU IP FP FS El US QR VS FN TW Yq Rn XT iN AH CK IW AX JE AI MS WE BC AV AF IK IN BI Jc YX Yw N4 AQ WV JB BB AC BZ CN BF Mj MC AE AO BD HK DD LZ AZ DC BR BE BS BJ AR BQ WQ SZ BV HF CI OC GQ AS BM CY BY EV CF AG IE CU GW HO CX OE FQ DF DU HY IC DR OD oR HH FW AT IZ JA OF BO BW AL AN AM LJ KO ID DK Kr HL Mc NV QE IL qG UC NQ Ao MG PG MO RQ Kh Ht Dl Vq YJ Ag Vt Sg fT Xa;simp only[CC,eq_self,implies_true,forall_const,FR,Ee]
   refine⟨⟨h,h0⟩,λq=>?_⟩
   rw[hb] at q;cases q
 ·have hb:(XV x.a != 0)=false:=by simpa using b1
  cases hi:PN x.m 0 (wr ((x.a.c.ms.length:Int)-1)) with
  |false=>
   have e:De x=(nilT,2):=by unfold De;rw[hb,hi];rfl
   rw[e];exact err _ b2 (.inr (.inl hi)) (by unfold truF;rw[hb,hi];rfl)
  |true=>
   have e:De x=(nilT,6):=by unfold De;rw[hb,hi,b3];rfl
   rw[e];exact err _ b2 (.inr (.inr b3)) (by unfold truF;rw[hb,hi];rfl)
 ·have hb:(XV x.a != 0)=false:=by simpa using b1
  obtain⟨_,hm,_⟩:=PR b2
  cases hi:PN x.m 0 (wr ((x.a.c.ms.length:Int)-1)) with
  |false=>
   have e:De x=(nilT,2):=by unfold De;rw[hb,hi];rfl
   rw[e];exact err _ b2 (.inr (.inl hi)) (by unfold truF;rw[hb,hi];rfl)
  |true=>
   have hmm:=IX.1 hi
   rw[show wr ((x.a.c.ms.length:Int)-1)=(x.a.c.ms.length:Int)-1 from Ap (by omega) (by omega)] at hmm
   have pr:BLM x:=⟨h,b4,by omega,by omega⟩
   cases hk:(xN x).all Od with
   |true=>
    have e:De x=(zE x,0):=by unfold De;rw[hb,hi,b3,hk];rfl
    rw[e]
    exact Wk (A:=CQT x) (L:=[]) (keep:=[]) (ren:=[]) (fz:=[301,302]) ACL (by kernel_rfl) (AA ASO (AA R9 (AA BTV (AA BGA (AA BCE (AA BOZ (AA CYS (AA AKC AK)))))))) (CWQ x pr hk) (BMJ bO (itTr x) rfl rfl AK X9 (by kernel_rfl) (by kernel_rfl))
   |false=>
    have e:De x=(nilT,5):=by unfold De;rw[hb,hi,b3,hk];rfl
    rw[e]
    exact Wk (A:=CAU x) (L:=[]) (keep:=[]) (ren:=[]) (fz:=[]) ACL (by kernel_rfl) (AA ASO (AA R9 (AA BTV (AA BGA (AA BCE AK))))) (CXX x pr hk)) _
theorem CAS{w:Dk}{l:List Span}{i:Nat}(hi:i<l.length):(gD l i).lo<=(gD (XS w l) i).lo/\(gD (XS w l) i).hi<=(gD l i).hi:=by
 have f1:∀i,(gD l i).lo<=(fwM l (OG w) i).lo/\(fwM l (OG w) i).hi<=(gD l i).hi:=λi=>by
  cases i with
  |zero=>exact⟨Int.le_refl _,Int.le_refl _⟩
  |succ i=>exact⟨BDO _ _,BBR _ _⟩
 have b1:∀j,(fwM l (OG w) (l.length-1-j)).lo<=(bkM (fwM l (OG w)) (OG w) (l.length-1) j).lo/\(bkM (fwM l (OG w)) (OG w) (l.length-1) j).hi<=(fwM l (OG w) (l.length-1-j)).hi:=λj=>by
  cases j with
  |zero=>exact⟨Int.le_refl _,Int.le_refl _⟩
  |succ j=>exact⟨BDO _ _,BBR _ _⟩
 unfold XS
 rw[FF _ _ _ hi]
 have h1:=b1 (l.length-1-i)
 rw[show l.length-1-(l.length-1-i)=i by omega] at h1
 have h2:=f1 i
 omega
theorem CDQ{x:TrI}(hr:DJ x.a=0)(hm:0<=x.m/\x.m<x.a.c.ms.length):(xN x).all Od=PN x.t (gD (ZJ x.a) x.m.toNat).lo (gD (ZJ x.a) x.m.toNat).hi:=by
 have h:=KB.1 (As hr).1
 have b:=BAS h hr (i:=x.m.toNat) (by omega)
 rw[Bool.eq_iff_iff,IX]
 constructor
 ·intro hk
  have l1:=yQ x
  have h1:=CAS (w:=FZ x.a) (l:=uG x) (i:=x.m.toNat) (by omega)
  have h2:=tS.1 hk x.m.toNat (by rw[AWV];omega)
  have h3:(gD (uG x) x.m.toNat).has (gD (uG x) x.m.toNat).lo:=by
   unfold Span.has;unfold xN at h2;omega
  have h4:=(BAJ hr (by omega) hm.1 _).1 h3
  have h5:=h4.2 rfl
  rw[h5] at h4
  exact h4.1
 ·intro hi
  unfold nL at b
  obtain⟨u,u1,u2⟩:=(BEZ h hr (i:=x.m.toNat) (by omega)).1 hi
  exact (CKX h hr hm (by omega)).2 ⟨u,u1,u2⟩
theorem BRS(x:TrI):(De x).2=mH x:=by
 rcases BBZ x.a with⟨b1,b2,b3⟩ | ⟨b1,b2,b3,b4⟩ | ⟨b1,b2,b3,b4⟩
 ·have hb:(XV x.a != 0)=true:=by simpa using b1
  have h1:(DJ x.a != 0)=true:=by rw[b2];exact hb
  have h2:(DJ x.a != 6)=true:=by simpa using b3
  unfold De mH;rw[hb,h1,h2,b2];rfl
 ·unfold De mH;rw[b1,b4,b3]
  cases PN x.m 0 (wr ((x.a.c.ms.length:Int)-1))<;>rfl
 ·obtain⟨_,hm,_⟩:=PR b2
  unfold De mH;rw[b1,b4,b3]
  cases hi:PN x.m 0 (wr ((x.a.c.ms.length:Int)-1)) with
  |false=>rfl
  |true=>
   have hmm:=IX.1 hi
   rw[show wr ((x.a.c.ms.length:Int)-1)=(x.a.c.ms.length:Int)-1 from Ap (by omega) (by omega)] at hmm
   rw[CDQ b4 (by omega)]
   cases PN x.t (gD (ZJ x.a) x.m.toNat).lo (gD (ZJ x.a) x.m.toNat).hi<;>rfl
theorem TrC.ext{c:Cht}{sp:Nat->Bool}{u v:Nat->Int}(hc:1<=c.ms.length)(h:TrC c sp u)(e:∀i,i<c.ms.length->u i=v i):TrC c sp v:=
 ⟨λi hi=>by rw[<-e i (by omega)];exact h.at_ i hi,λg hg=>by rw[<-e g (by omega),<-e (g+1) (by omega)];exact h.gap g hg⟩
theorem CTB{x:TrI}(h0:(De x).2=0):AP x.a.c=0/\(0<=x.m/\x.m<x.a.c.ms.length)/\(De x).1.t.length=x.a.c.ms.length/\gD (De x).1.t x.m.toNat=x.t/\(De x).1.s.length=x.a.c.ms.length/\(De x).1.z=x.a.z/\Qs ⟨x.a.c,(De x).1⟩=(true,0):=by
 rcases BBZ x.a with⟨b1,b2,b3⟩ | ⟨b1,b2,b3,b4⟩ | ⟨b1,b2,b3,b4⟩
 ·have hb:(XV x.a != 0)=true:=by simpa using b1
  have e:De x=(nilT,XV x.a):=by unfold De;rw[hb];rfl
  rw[e] at h0;exact absurd h0 b1
 ·exfalso
  unfold De at h0;rw[b1,b3] at h0
  cases hi:PN x.m 0 (wr ((x.a.c.ms.length:Int)-1))<;>rw[hi] at h0<;>cases h0
 ·obtain⟨_,hm,_⟩:=PR b2
  have hc:=KB.1 b2
  cases hi:PN x.m 0 (wr ((x.a.c.ms.length:Int)-1)) with
  |false=>exfalso;unfold De at h0;rw[b1,hi] at h0;cases h0
  |true=>
   have hmm:=IX.1 hi
   rw[show wr ((x.a.c.ms.length:Int)-1)=(x.a.c.ms.length:Int)-1 from Ap (by omega) (by omega)] at hmm
   have hmm:0<=x.m/\x.m<x.a.c.ms.length:=by omega
   cases hk:(xN x).all Od with
   |false=>exfalso;unfold De at h0;rw[b1,hi,b3,hk] at h0;cases h0
   |true=>
    have e:De x=(zE x,0):=by unfold De;rw[b1,hi,b3,hk];rfl
    rw[e]
    have ht:-1000000000<=x.t/\x.t<=1000000000:=by
     have:=CDQ b4 hmm
     rw[hk] at this
     have:=IX.1 this.symm
     have b:=BAS hc b4 (i:=x.m.toNat) (by omega)
     unfold nL at b;omega
    obtain⟨t1,t2⟩:=CZS hc b4 hmm ht hk
    have lt:(zE x).t.length=x.a.c.ms.length:=rng_length _ _
    have ls:(zE x).s.length=x.a.c.ms.length:=rng_length _ _
    have gt:∀i,i<x.a.c.ms.length->gD (zE x).t i=trT x i:=λi hi=>FF _ _ _ hi
    have gs:∀i,i<x.a.c.ms.length->gD (zE x).s i=trS x i:=λi hi=>FF _ _ _ hi
    obtain⟨_,zo,so,_,_⟩:=iQ b4
    have hold:=BYT (x:=⟨x.a.c,zE x⟩) hc zo lt ls (λi hi=>by
     show _<=gD (zE x).t i/\gD (zE x).t i<=_
     rw[gt i hi];exact t1.bd hc hi)
    refine⟨b2,hmm,lt,by show gD (zE x).t _=_;rw[gt _ (by omega)];exact t2,ls,rfl,?_⟩
    show Qs ⟨x.a.c,zE x⟩=(true,0)
    have h1:(Qs ⟨x.a.c,zE x⟩).1=true:=hold.2.2 ⟨t1.ext hc.m.1 λi hi=>(gt i hi).symm,λi hi=>by
     have hi:i<x.a.c.ms.length:=hi
     show (YW x.a.c i).has (gD (zE x).s i)
     rw[gs i hi]
     have:=tS.1 so i (by rw[P9];exact hi)
     rw[Tp hi] at this
     exact⟨Int.le_refl _,this⟩⟩
    exact Prod.ext h1 hold.1
end Go.Bal

namespace Go.Bal
open Go Go.Sym Go.Proofs
structure SS2 where
 l:List Span
 m:List Span
def dSS2:List AVal->Heap->Option (SS2×List (Nat×Nat)×List Nat)
 |[x,y],H=>match rJ x H,rJ y H with
  |some (l,f),some (m,e)=>some (⟨l,m⟩,[],f ++ e)
  |_,_=>none
 |_,_=>none
def eqN(f:Nat->Bool):Nat->Bool
 |0=>true
 |k+1=>eqN f k&&f k
def eqS(x:SS2)(i:Nat):Bool:=(gD x.l i).lo==(gD x.m i).lo&&(gD x.l i).hi==(gD x.m i).hi
def samS(x:SS2):Bool:=x.l.length==x.m.length&&eqN (eqS x) x.l.length
def C_samS:Ctr:={ α:=SS2,xs:=λx=>[.d (HA x.l),.d (HA x.m)],val:=λx=>.bool (samS x),keep:=λ_=>[],pre:=λx=>[x.l.length<4611686018427387904/\x.m.length<4611686018427387904] }
def sa4(x:SS2):Shape:={ α:=Nat,dflt:=0,T:=λk=>⟨[(0,.d (HA x.l)),(1,.d (HA x.m)),(5,.int k)],[]⟩,inv:=λk=>k<=x.l.length/\eqN (eqS x) k=true,meas:=λk=>x.l.length-k }
def CER(x:SS2):Ann:={ ann 26 [] with loops:=λid=>if id=4 then some [sa4 x] else none }
def CCH(x:SS2):Prop:=ES Try.prog (CER x) BJX (AJ BJX) (C_samS.xs x) (AD []) (C_samS.val x) [] [] []
abbrev AKZ:=SS2.l
abbrev AEM:=SS2.m
abbrev F3 a:=IH (AKZ a)
attribute [go_sem] AKZ AEM F3
theorem CMN(x:SS2):(CCH x)=(Fb (lG (F3 x) (CG (IH (AEM x)))) (DZ (samS x)) (λi=>Tb (AI (SK (AKZ x)) (RE (AKZ x)) (SK (AEM x)) (RE (AEM x)) (CQ i)) (CW i (F3 x)) (eqN (eqS x) i)) (λi=>OO (Uv i (F3 x) (eqN (eqS x) i)) i (F3 x) (QN i (F3 x) (DX i) (Jz i (IH (AEM x)))) (WF (not (lI (VG (AKZ x) i) (VG (AEM x) i) (XB (AKZ x) i) (XB (AEM x) i))) (DZ (samS x)) (λj=>IF (AI (SK (AKZ x)) (RE (AKZ x)) (SK (AEM x)) (RE (AEM x)) (BA j i)) (Uv j (F3 x) (eqN (eqS x) j)) (F3 x) j i)) (EA (samS x)))):=by kernel_rfl
theorem BOF{f:Nat->Bool}:∀{n k:Nat},k<n->f k=false->eqN f n=false
 |0,k,h,_=>absurd h (Nat.not_lt_zero _)
 |n+1,k,h,hg=>by
  show (eqN f n&&f n)=false
  by_cases e:k=n
  ·subst e;rw[hg,Bool.and_false]
  ·rw[BOF (show k<n by omega) hg];rfl
theorem BZT{f:Nat->Bool}{k:Nat}(h:eqN f k=true)(h2:f k=true):eqN f (k+1)=true:=by
 show (eqN f k&&f k)=true
 rw[h,h2];rfl
theorem CVZ(x:SS2)(h:x.l.length<4611686018427387904/\x.m.length<4611686018427387904):CCH x:=by
 rw[CMN]<;> delta MD Iv BH BK RD RU CH IH AB CJ CE AY OV CG CW FV NL HD KA UI IG KI Og LW QR AKZ AEM AH AI BC AV AF BI AQ BZ BF JQ IS EQ FL HR BX DN QQ EA DT FE SK MJ DX EZ JJ BA ZR DZ JH ZP FK Bt TQ KH CQ RE JY JK IF ON HX O6 VG XB Cl OO QN Jz WF lG lI Fb Uv Tb F3;simp only[CC,eq_self,implies_true,forall_const]
 refine⟨λhn=>?_,λhn=>⟨⟨0,rfl,Nat.zero_le _,rfl⟩,?_⟩⟩
 ·unfold samS
  have:(x.l.length==x.m.length)=false:=by simp at hn ⊢;omega
  rw[this];rfl
 ·have hl:(x.l.length==x.m.length)=true:=by simp at hn ⊢;omega
  have hl2:x.l.length=x.m.length:=by simpa using hl
  rintro k ⟨hk,he⟩
  refine⟨λhlt=>⟨⟨⟨by omega,by omega⟩,by omega,by omega⟩,λhc=>?_,λhc=>⟨k+1,by rw[Ap (by omega) (by omega)];rfl,⟨by omega,BZT he ?_⟩,by omega⟩⟩,λhge=>?_⟩
  ·unfold samS
   rw[BOF (f:=eqS x) (show k<x.l.length by omega) (by rw[Bool.and_true] at hc;exact hc),Bool.and_false]
  ·rw[Bool.and_true] at hc;exact hc
  ·obtain rfl:k=x.l.length:=by omega
   unfold samS;rw[hl,he];rfl
theorem BSX:AW Try.prog AWX (C_samS.spec dSS2):=Je C_samS CER [] [] CDW (λ_=>by kernel_rfl) (λ_=>AK) (λ(x:SS2) h=>CVZ x h) (λ_=>Kp rfl rfl) _
structure PP2 where
 l:List Pr
 m:List Pr
def dPP2:List AVal->Heap->Option (PP2×List (Nat×Nat)×List Nat)
 |[x,y],H=>match dPrs x H,dPrs y H with
  |some (l,f),some (m,e)=>some (⟨l,m⟩,[],f ++ e)
  |_,_=>none
 |_,_=>none
def eqP(x:PP2)(i:Nat):Bool:=(gD x.l i).a==(gD x.m i).a&&(gD x.l i).b==(gD x.m i).b
def samP(x:PP2):Bool:=x.l.length==x.m.length&&eqN (eqP x) x.l.length
def C_samP:Ctr:={ α:=PP2,xs:=λx=>[.d (aZ x.l),.d (aZ x.m)],val:=λx=>.bool (samP x),keep:=λ_=>[],pre:=λx=>[x.l.length<4611686018427387904/\x.m.length<4611686018427387904] }
def sq4(x:PP2):Shape:={ α:=Nat,dflt:=0,T:=λk=>⟨[(0,.d (aZ x.l)),(1,.d (aZ x.m)),(5,.int k)],[]⟩,inv:=λk=>k<=x.l.length/\eqN (eqP x) k=true,meas:=λk=>x.l.length-k }
def BZL(x:PP2):Ann:={ ann 26 [] with loops:=λid=>if id=4 then some [sq4 x] else none }
def BYD(x:PP2):Prop:=ES Try.prog (BZL x) BIW (AJ BIW) (C_samP.xs x) (AD []) (C_samP.val x) [] [] []
abbrev AJO:=PP2.l
abbrev AJC:=PP2.m
abbrev gN a:=GA (AJO a)
abbrev G0 a b c(d:Nat->Prop) e:=AI a b c (AB d) e
abbrev Y0 a:=GA (AJC a)
attribute [go_sem] AJO AJC gN G0 Y0
theorem CKI(x:PP2):(BYD x)=(Fb (lG (gN x) (CG (Y0 x))) (DZ (samP x)) (λi=>Tb (G0 (BI (gN x)) (AB (λj=>aR j (gN x) (Wt (AJO x) j) (AJO x) j)) (BI (Y0 x)) (λj=>aR j (Y0 x) (Wt (AJC x) j) (AJC x) j) (CQ i)) (CW i (gN x)) (eqN (eqP x) i)) (λi=>OO (Uv i (gN x) (eqN (eqP x) i)) i (gN x) (QN i (gN x) (DX i) (Jz i (Y0 x))) (WF (not (lI (LV (AJO x) i) (LV (AJC x) i) (LU (AJO x) i) (LU (AJC x) i))) (DZ (samP x)) (λj=>IF (G0 (BI (gN x)) (AB (λk=>aR k (gN x) (Wt (AJO x) k) (AJO x) k)) (BI (Y0 x)) (λk=>aR k (Y0 x) (Wt (AJC x) k) (AJC x) k) (BA j i)) (Uv j (gN x) (eqN (eqP x) j)) (gN x) j i)) (EA (samP x)))):=by kernel_rfl
theorem CYJ(x:PP2)(h:x.l.length<4611686018427387904/\x.m.length<4611686018427387904):BYD x:=by
 rw[CKI]<;> delta MD Iv RD RU CH AB CJ CE AY CG CW FV NL HD KA UI IG KI Og LW QR JM JF GA QB AJO AJC AH AI AV AF BI BF JQ EQ FL HR BX DN EA DT LU FE LV MJ DX EZ JJ BA DZ JH FK TQ KH CQ JY JK IF ON HX O6 Cl OO QN Jz WF lG gN lI Wt AMN Fb Uv G0 Tb aR Y0;simp only[CC,eq_self,implies_true,forall_const]
 refine⟨λhn=>?_,λhn=>⟨⟨0,rfl,Nat.zero_le _,rfl⟩,?_⟩⟩
 ·unfold samP
  have:(x.l.length==x.m.length)=false:=by simp at hn ⊢;omega
  rw[this];rfl
 ·have hl:(x.l.length==x.m.length)=true:=by simp at hn ⊢;omega
  have hl2:x.l.length=x.m.length:=by simpa using hl
  rintro k ⟨hk,he⟩
  refine⟨λhlt=>⟨⟨⟨by omega,by omega⟩,by omega,by omega⟩,λhc=>?_,λhc=>⟨k+1,by rw[Ap (by omega) (by omega)];rfl,⟨by omega,BZT he ?_⟩,by omega⟩⟩,λhge=>?_⟩
  ·unfold samP
   rw[BOF (f:=eqP x) (show k<x.l.length by omega) (by rw[Bool.and_true] at hc;exact hc),Bool.and_false]
  ·rw[Bool.and_true] at hc;exact hc
  ·obtain rfl:k=x.l.length:=by omega
   unfold samP;rw[hl,he];rfl
theorem BSV:AW Try.prog AWY (C_samP.spec dPP2):=Je C_samP BZL [] [] CBR (λ_=>by kernel_rfl) (λ_=>AK) (λ(x:PP2) h=>CYJ x h) (λ_=>Kp rfl rfl) _
def oneM(x:I2):Cht:=⟨⟨10,12⟩,500,10,5,[⟨0,20⟩,⟨10,50⟩,⟨30,30⟩],[⟨0,⟨0,0⟩,⟨0,2000⟩⟩,⟨2,⟨x.a,x.b⟩,⟨0,2000⟩⟩]⟩
def CSG(x:I2):Prop:=ES Try.prog (ann 21 []) BLG (AJ BLG) (xI2 x) (AD []) (.d (Nj (oneM x))) [] [] [3064,3192]
abbrev Ho:=oneM
abbrev Vr a b c:=AV a (AO b) c
abbrev Bz a b c:=NU a 0 b c
abbrev RB a b c:=Bz (BG a) b c
abbrev Nf a b c d:=BD a (RB b c d)
abbrev MM:=MK 2
abbrev OJ a:=HE a 2
abbrev J2 a b c d e:=Bz a b (Bz c d e)
abbrev Mt a b c d:=J2 a b (WX a) c d
abbrev KR:=MK 3
attribute [go_sem] Ho Vr Bz RB Nf MM OJ J2 Mt KR
theorem CTG(x:I2):(CSG x)=(AH (BD (EC (Ho x)) 10) (BC (EC (Ho x)) 12) (QP (JZ (Ho x) 500) (JW (Ho x) 10) (JU (Ho x) 5) (DO (Ho x) 3) KR (λi=>CI i (AX (Ho x)) (BE (Ho x) i) (Mt (BG i) 0 10 30) (BS (Ho x) i) (Mt (BG i) 20 50 30)) (OJ (Ho x)) MM (AB (λi=>Vr i (Ho x) (XO (BR (Ho x) i) (RB i 0 2) (Nf (AC (Ho x) i) i 0 (Wh x)) (AC (Ho x) i) (RB i 0 (Qk x)) (Nf (AE (Ho x) i) i 0 0) (AE (Ho x) i) (RB i 2000 2000)))))):=by kernel_rfl
def CPR:=pD dI2 λx=>.d (Nj (oneM x))
theorem CWF:AW Try.prog BLP CPR:=cC xI2 hI2 λg _=>Wk (A:=ann 21 []) (ren:=[]) (fz:=[3064,3192]) BZR (by kernel_rfl) AK (by
 show CSG g;rw[CTG]<;> delta BH BK DY EM EO CH AB CJ CE AY CW IG EB FX EC GY GX GR GG DV FO FU IV NR WW Wh Qk Ho AH CK AX AI BC AV MK BB AC CN BF AE AO BD BG BR BE BS CI NU Bz HE DO WX J2 JU JW OJ KR JZ RB MM QP Dy Mt Nf Vr XO;simp only[CC,eq_self,implies_true,forall_const]
 refine⟨rfl,rfl,rfl,rfl,rfl,rfl,by decide,λj hj=>?_,rfl,by decide,λj hj=>?_⟩
 ·have hj:j<3:=hj
  rcases j with _ | _ | _ | j
  ·exact⟨rfl,rfl⟩
  ·exact⟨rfl,rfl⟩
  ·exact⟨rfl,rfl⟩
  ·omega
 ·have hj:j<2:=hj
  rcases j with _ | _ | j
  ·exact⟨rfl,rfl,rfl,rfl,rfl⟩
  ·exact⟨rfl,rfl,rfl,rfl,rfl⟩
  ·omega)
def BST:List AVal->Option (AVal×List Prop)
 |[]=>some (.bool true,[])
 |_=>none
def AIK:Sym.Spec:=AIH BST
end Go.Bal
