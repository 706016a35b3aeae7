/- Package rating: numbers, lines, fractions. -/
import Derived.Test.YtbmlgdlbffmjjaaGreatRat0
set_option linter.unusedVariables false
set_option linter.unusedSimpArgs false
namespace Go.Bal
open Go Go.Sym Go.Proofs
def wr(n:Int):Int:=IntKind.i64.wrap n
def MN(a b c:Int):Bool:=decide (b<=a)&&decide (a<=c)
def riG(g:Gau):Bool:=MN g.st 0 2000&&MN g.lo 0 g.hi&&MN g.hi 0 200000
def riP(p:Pt):Bool:=MN p.st 0 2000&&MN p.fl 0 200000
def Ww(x:Ln):Bool:=riP ⟨x.a0,x.a1⟩&&riP ⟨x.b0,x.b1⟩&&decide (x.a0<x.b0)&&decide (x.a1<=x.b1)
def V_in(x:I3):Prop:=AX Try.prog (ann 15 []) F_in (AF F_in) (xI3 x) (AC []) (.bool (MN x.a x.b x.c)) [] [] []
abbrev LI:=@Eq Bool
abbrev hd2:=I3.a
abbrev hd3:=I3.b
abbrev hd4:=I3.c
abbrev Wo:=@cond Bool
abbrev N4:=λ(x0 x1:Int)=>decide (x0>=x1)
abbrev hd7:=λ(x0 x1:Int)=>decide (x0<=x1)
abbrev UD:=false
abbrev BY a b:=Wo a b UD
abbrev HY a b c:=LI a (BY b c)
abbrev WQ a b c d:=HY a b (hd7 c d)
attribute [go_sem] LI hd2 hd3 hd4 Wo N4 hd7 UD BY HY WQ
theorem CTU(x:I3):(V_in x)=(WQ (MN (hd2 x) (hd3 x) (hd4 x)) (N4 (hd2 x) (hd3 x)) (hd2 x) (hd4 x)):=by kernel_rfl
def Fg:=pD dI3 λx=>.bool (MN x.a x.b x.c)
theorem H3:AH Try.prog n_in Fg:=MC xI3 hI3 λx _=>Dy (A:=ann 15 []) (ren:=[]) (fz:=[]) CRM (by kernel_rfl) AD (by
 show V_in x;rw[CTU]<;> delta LI hd2 hd3 hd4 Wo N4 hd7 UD BY HY WQ;unfold MN;by_cases h:x.b<=x.a<;>simp[h])
def CKQ(g:Gau):Prop:=AX Try.prog (ann 21 [(n_in,Fg)]) BUY (AF BUY) (xG1 g) (AC []) (.bool (riG g)) [] [] []
abbrev KA:=Gau.st
abbrev LV:=Gau.lo
abbrev JY:=Gau.hi
abbrev FC a b:=MN a 0 b
attribute [go_sem] KA LV JY FC
theorem CLK(g:Gau):(CKQ g)=(HY (riG g) (BY (FC (KA g) 2000) (FC (LV g) (JY g))) (FC (JY g) 200000)):=by kernel_rfl
def CHN:=pD dG1 λg=>.bool (riG g)
theorem CLM:AH Try.prog BJJ CHN:=MC xG1 hG1 λg _=>Dy (A:=ann 21 [(n_in,Fg)]) (ren:=[]) (fz:=[]) CNA (by kernel_rfl) (AA H3 AD) (by
 show CKQ g;rw[CLK]<;> delta LI Wo UD KA LV JY BY FC HY;unfold riG;cases MN g.st 0 2000<;>cases MN g.lo 0 g.hi<;>simp)
def CIB(g:Pt):Prop:=AX Try.prog (ann 11 [(n_in,Fg)]) BZW (AF BZW) (xP1 g) (AC []) (.bool (riP g)) [] [] []
abbrev fD:=Pt.st
abbrev Qj:=Pt.fl
attribute [go_sem] fD Qj
theorem CLN(g:Pt):(CIB g)=(HY (riP g) (FC (fD g) 2000) (FC (Qj g) 200000)):=by kernel_rfl
def BZM:=pD dP1 λg=>.bool (riP g)
theorem CPI:AH Try.prog BFK BZM:=MC xP1 hP1 λg _=>Dy (A:=ann 11 [(n_in,Fg)]) (ren:=[]) (fz:=[]) CND (by kernel_rfl) (AA H3 AD) (by
 show CIB g;rw[CLN]<;> delta LI Wo UD fD Qj BY FC HY;unfold riP;cases MN g.st 0 2000<;>simp)
def CIY(g:Ln):Prop:=AX Try.prog (ann 29 [(BFK,BZM)]) BPZ (AF BPZ) (xL1 g) (AC []) (.bool (Ww g)) [] [] []
abbrev X9:=Pt.mk
abbrev LL:=Ln.a0
abbrev HV:=Ln.a1
abbrev GZ:=Ln.b0
abbrev JJ:=Ln.b1
abbrev NX:=λ(x0 x1:Int)=>decide (x0<x1)
attribute [go_sem] X9 LL HV GZ JJ NX
theorem CMF(g:Ln):(CIY g)=(WQ (Ww g) (BY (BY (riP (X9 (LL g) (HV g))) (riP (X9 (GZ g) (JJ g)))) (NX (LL g) (GZ g))) (HV g) (JJ g)):=by kernel_rfl
def AVU:=pD dL1 λg=>.bool (Ww g)
theorem X2:AH Try.prog AIL AVU:=MC xL1 hL1 λg _=>Dy (A:=ann 29 [(BFK,BZM)]) (ren:=[]) (fz:=[]) CMG (by kernel_rfl) (AA CPI AD) (by
 show CIY g;rw[CMF]<;> delta LI Wo hd7 UD X9 LL HV GZ JJ NX BY HY WQ;unfold Ww;cases riP ⟨g.a0,g.a1⟩<;>cases riP ⟨g.b0,g.b1⟩<;>by_cases h:g.a0<g.b0<;>simp[h])
def BOX(x:Int):Prop:=AX Try.prog (ann 6 []) AZX (AF AZX) (xI1 x) (AC []) (.bool false) [] [] []
abbrev cI:=@bne Int (@instBEqOfDecidableEq Int Int.instDecidableEq)
attribute [go_sem] cI
theorem CFI(x:Int):(BOX x)=(LI UD (cI x x)):=by kernel_rfl
def C7:=pD dI1 λ_=>.bool false
theorem BIU:AH Try.prog T8 C7:=MC xI1 hI1 λg _=>Dy (A:=ann 6 []) (ren:=[]) (fz:=[]) CCL (by kernel_rfl) AD (by
 show BOX g;rw[CFI]<;> delta LI UD cI;simp)
def BOP(x:Int):Prop:=AX Try.prog (ann 6 []) BAA (AF BAA) (xI1 x) (AC []) (.bool false) [] [] []
theorem CES(x:Int):(BOP x)=(LI UD (cI x x)):=by kernel_rfl
theorem CDV:AH Try.prog BEX C7:=MC xI1 hI1 λg _=>Dy (A:=ann 6 []) (ren:=[]) (fz:=[]) CDL (by kernel_rfl) AD (by
 show BOP g;rw[CES]<;> delta LI UD cI;simp)
def BGI(x:I2):Prop:=AX Try.prog (ann 17 [(T8,C7)]) ASD (AF ASD) (xI2 x) (AC []) (.bool (decide (x.a<x.b))) [] [] []
abbrev Iv:=I2.a
abbrev Oc:=I2.b
abbrev HU:=true
abbrev OZ a b:=Wo a HU b
abbrev yQ a b:=Wo a b a
attribute [go_sem] Iv Oc HU OZ yQ
theorem BQU(x:I2):(BGI x)=(LI (NX (Iv x) (Oc x)) (OZ (yQ UD (not UD)) (NX (Iv x) (Oc x)))):=by kernel_rfl
def BHR:=pD dI2 λx=>.bool (decide (x.a<x.b))
theorem BVC:AH Try.prog ARE BHR:=MC xI2 hI2 λg _=>Dy (A:=ann 17 [(T8,C7)]) (ren:=[]) (fz:=[]) BSW (by kernel_rfl) (AA BIU AD) (by
 show BGI g;rw[BQU]<;> delta LI Wo UD NX Iv Oc HU yQ OZ;try simp)
def kW(a b:Int):Int:=bif decide (a<b) then -1 else bif decide (a>b) then 1 else 0
def BRD(x:I2):Prop:=AX Try.prog (ann 20 [(T8,C7)]) BEI (AF BEI) (xI2 x) (AC []) (.int (kW x.a x.b)) [] [] []
abbrev EZ:=@cond Prop
abbrev AK:=@Eq Int
abbrev lO:=kW
abbrev aD:=λ(x0 x1:Int)=>decide (x0>x1)
abbrev CQ a:=AK a 0
attribute [go_sem] EZ AK lO aD CQ
theorem CCK(x:I2):(BRD x)=(EZ (NX (Iv x) (Oc x)) (AK (lO (Iv x) (Oc x)) (-1)) (EZ (aD (Iv x) (Oc x)) (AK (lO (Iv x) (Oc x)) 1) (CQ (lO (Iv x) (Oc x))))):=by kernel_rfl
def U8:=pD dI2 λx=>.int (kW x.a x.b)
theorem AUD:AH Try.prog A5 U8:=MC xI2 hI2 λg _=>Dy (A:=ann 20 [(T8,C7)]) (ren:=[]) (fz:=[]) CFJ (by kernel_rfl) (AA BIU AD) (by
 show BRD g;rw[CCK]<;> delta NX Iv Oc EZ AK lO aD CQ;unfold kW;by_cases h:g.a<g.b<;>by_cases h2:g.b<g.a<;>simp[h,h2])
structure IL where
 a:Int
 l:List Int
def grM(x:IL):Int:=x.l.foldl Rb x.a
structure NI where
 k:Nat
 m:Int
 deriving Inhabited
def C_gr:Ctr:={ α:=IL,xs:=λx=>[.int x.a,.d (IM x.l)],L:=λ_=>[],val:=λx=>.int (grM x),keep:=λ_=>[],pre:=λx=>[decide (x.l.length<4611686018427387904)=true] }
def d_gr:List AVal->Heap->Option (IL×List (Nat×Nat)×List Nat)
 |[.d a,y],H=>match I7 y H with
  |some (l,f)=>some (⟨LR a,l⟩,[],f)
  |none=>none
 |_,_=>none
def A_gr(x:IL):Ann:={ ann 18 [] with loops:=λid=>if id=2 then some [{ α:=NI,dflt:=default,T:=λs=>⟨[(0,.int s.m),(7,.d (IM x.l)),(8,.int x.l.length),(9,.int s.k)],[]⟩,inv:=λs=>s.k<=x.l.length/\s.m=(x.l.take s.k).foldl Rb x.a,meas:=λs=>x.l.length-s.k }] else none }
def V_gr(x:IL):Prop:=AX Try.prog (A_gr x) A4 (AF A4) (C_gr.xs x) (AC []) (C_gr.val x) [] [] []
abbrev hd33:=@Exists NI
abbrev xV:=NI.m
abbrev AN:=@Eq Nat
abbrev FI:=@List.length Int
abbrev Q4:=IL.l
abbrev AE:=λ(f:Nat->Prop)=>∀(x:Nat),f x
abbrev BA:=λ(p q:Prop)=>p->q
abbrev BN:=@LT.lt Nat instLTNat
abbrev IQ:=@gD Int Int.instInhabited
abbrev BH:=@Nat.cast Int instNatCastInt
abbrev Kc:=NI.k
abbrev CV:=@LE.le Nat instLENat
abbrev hd46:=@List.foldl Int Int
abbrev sD:=Rb
abbrev yB:=@List.take Int
abbrev hd49:=λ(f:NI->Prop)=>∀(x:NI),f x
abbrev DC:=@LE.le Int Int.instLEInt
abbrev ER:=@LT.lt Int Int.instLTInt
abbrev NC:=IntKind.wrap
abbrev TD:=@HAdd.hAdd Int Int Int (@instHAdd Int Int.instAdd)
abbrev KE:=@HSub.hSub Nat Nat Nat (@instHSub Nat instSubNat)
abbrev EY a b c d:=EZ a (And b c) d
abbrev HH a b c d e:=BA a (EY b c d e)
abbrev HX a b:=NX (BH a) b
abbrev LA a b:=HX a (BH b)
abbrev HF a b c d e f:=HH a (LA b c) d e f
abbrev AG a b c:=And a (And b c)
abbrev EV a b c d:=AG a b (BN c d)
abbrev SA a b c d e:=EV a b (KE c d) e
abbrev TM a b c d e f:=SA a b c d (KE e f)
abbrev FB a b c d e:=TM a b c d c e
abbrev uS a:=FI (Q4 a)
abbrev CJ a b c:=And (CV a b) c
abbrev AI a b c d e:=AG a b (AG c d e)
abbrev GJ a b:=AK (BH a) b
abbrev CS a:=NC IntKind.i64 a
abbrev DK a b:=CS (TD a b)
abbrev FP a:=DK a 1
abbrev JD a b:=GJ a (FP b)
abbrev AU a b:=JD a (BH b)
abbrev AJ a:=AK a a
abbrev EJ a:=AJ (BH a)
abbrev PC a:=EJ (FI a)
abbrev AO a b c:=BA (BN a b) c
abbrev HD a b c:=AO a (FI b) c
abbrev Mz a b c d:=HD a b (AJ (IQ c d))
abbrev PI a b:=Mz a b b a
abbrev EG a:=AE (λi=>PI i a)
abbrev AR a:=AN a a
abbrev HS a:=AR (FI a)
abbrev BG a:=DC 0 a
abbrev EB a b:=And (BG a) b
abbrev DR a b:=ER a (BH b)
abbrev DT a b:=EB a (DR a b)
abbrev BE a b:=DT (BH a) b
abbrev FG a b c d:=AG a (CV b c) d
abbrev BD a:=GJ a 0
attribute [go_sem] hd33 xV AN FI Q4 AE BA BN IQ BH Kc CV hd46 sD yB hd49 DC ER NC TD KE EY HH HX LA HF AG EV SA TM FB uS CJ AI GJ CS DK FP JD AU AJ EJ PC AO HD Mz PI EG AR HS BG EB DR DT BE FG BD
theorem CRF(x:IL):(V_gr x)=(And (hd33 (λi=>FG (AI (AK (xV i) (IL.a x)) (HS (Q4 x)) (EG (Q4 x)) (PC (Q4 x)) (BD (Kc i))) (Kc i) (uS x) (AK (xV i) (hd46 sD (IL.a x) (yB (Kc i) (Q4 x)))))) (hd49 (λi=>HF (CJ (Kc i) (uS x) (AK (xV i) (hd46 sD (IL.a x) (yB (Kc i) (Q4 x))))) (Kc i) (uS x) (BE (Kc i) (uS x)) (hd33 (λj=>FB (AI (AK (xV j) (sD (xV i) (IQ (Q4 x) (Kc i)))) (HS (Q4 x)) (EG (Q4 x)) (PC (Q4 x)) (AU (Kc j) (Kc i))) (CJ (Kc j) (uS x) (AK (xV j) (hd46 sD (IL.a x) (yB (Kc j) (Q4 x))))) (uS x) (Kc j) (Kc i))) (AK (grM x) (xV i))))):=by kernel_rfl
theorem VP{α:Type}[Inhabited α]{l:List α}{k:Nat}(h:k<l.length):l.take (k+1)=l.take k ++ [gD l k]:=by
 rw[List.take_add_one,List.getElem?_eq_getElem h];simp[gD,List.getD_eq_getElem?_getD,h]
theorem p_gr(x:IL)(h:x.l.length<4611686018427387904):V_gr x:=by
 rw[CRF]<;> delta NX EZ AK hd33 xV AN FI Q4 AE BA BN IQ BH Kc CV hd46 sD yB hd49 DC ER NC TD KE CS AG AI AO AJ AR BG DK GJ HD EJ EB DR HS FP EV DT Mz JD AU EY PI BE EG HX CJ LA HH BD HF FG SA TM FB PC uS;try simp only[CC,CU]
 refine⟨⟨⟨0,x.a⟩,⟨rfl,rfl⟩,Nat.zero_le _,rfl⟩,λs hs=>⟨λhlt=>⟨by omega,⟨s.k+1,Rb s.m (gD x.l s.k)⟩,⟨rfl,(GH (by omega)).symm⟩,⟨⟨by show s.k+1<=_;omega,?_⟩,?_⟩⟩,λhge=>?_⟩⟩
 ·show Rb s.m (gD x.l s.k)=_
  rw[VP (by omega),List.foldl_append,hs.2];rfl
 ·show x.l.length-(s.k+1)<_;omega
 ·rw[hs.2];unfold grM;rw[List.take_of_length_le (by omega)]
theorem CRQ:AH Try.prog D5 (C_gr.spec d_gr):=PU C_gr A_gr [] [] AXK (λ_=>by kernel_rfl) (λ_=>AD) (λx h=>p_gr x (of_decide_eq_true h)) (λ_=>RU rfl rfl) _
def jC(n d:Int):Rt:=⟨n.tdiv (Nat.gcd n.natAbs d.natAbs:Nat),d.tdiv (Nat.gcd n.natAbs d.natAbs:Nat)⟩
structure NN where
 a:Nat
 b:Nat
 deriving Inhabited
def BJR(x:I2):Ann:={ ann 26 [(D5,C_gr.spec d_gr)] with loops:=λid=>if id=2 then some [{ α:=NN,dflt:=default,T:=λs=>⟨[(0,.int x.a),(1,.int x.b),(4,.bptr 201 0),(5,.int s.a),(6,.int s.b)],[(201,.live (.box [.int 0,.int 0]))]⟩,inv:=λs=>Nat.gcd s.a s.b=Nat.gcd x.a.natAbs x.b.natAbs/\s.a<=2305843009213693952/\s.b<=2305843009213693952,meas:=λs=>s.b,first:=[(201,1000)] }] else none }
def BJZ(x:I2):Prop:=AX Try.prog (BJR x) APL (AF APL) (xI2 x) (AC []) (.d (eRt (jC x.a x.b))) [] [] []
abbrev Ff:=@WA Int
abbrev No:=@HSub.hSub Int Int Int (@instHSub Int Int.instSub)
abbrev A6:=NN.a
abbrev xX:=NN.b
abbrev FD:=Int.ofNat
abbrev hd64:=Nat.gcd
abbrev V6:=Int.natAbs
abbrev mM:=False
abbrev sC:=Int.tmod
abbrev Gn:=Rt.n
abbrev Dj:=Rt.d
abbrev ZG a:=BA a mM
abbrev Vf a:=(@Ne Int) a 0
abbrev Fl a b c d:=AI a b c d d
abbrev BO a:=AJ (FD a)
abbrev AL:=BO 0
abbrev BC a b:=GJ a (BH b)
abbrev QW a:=cI a 0
abbrev AQ a b c d:=And a (AG b c d)
abbrev ZE a b c d e:=AQ a b (CV c d) e
abbrev IR a b:=CS (No a b)
abbrev Se a:=IR 0 a
abbrev DF a:=LI a a
abbrev GQ:=DF HU
abbrev MM a b c:=AK (IQ a b) c
abbrev rB a b c d e:=HD a b (MM c d e)
abbrev Ja a b c d:=rB a b b c d
abbrev VR a:=CV a a
abbrev GM a b:=AN (FI a) b
attribute [go_sem] Ff No A6 xX FD hd64 V6 mM sC Gn Dj ZG Vf Fl BO AL BC QW AQ ZE IR Se DF GQ MM rB Ja VR GM
theorem BNH(x:I2):(BJZ x)=(AG (AI (AJ (Iv x)) (GM (Ff 1 (λi=>Se (Iv x))) 1) (VR 1) (AE (λi=>Ja i (Ff 1 (λj=>Se (Iv x))) i (Se (Iv x)))) GQ) ((@Exists NN) (λi=>ZE (And (AJ (Iv x)) (Fl (AJ (Oc x)) (GJ (A6 i) (grM (IL.mk (Iv x) (Ff 1 (λj=>Se (Iv x)))))) (GJ (xX i) (Oc x)) AL)) (AN (hd64 (A6 i) (xX i)) (hd64 (V6 (Iv x)) (V6 (Oc x)))) (A6 i) 2305843009213693952 (CV (xX i) 2305843009213693952))) ((λ(f:NN->Prop)=>∀(x:NN),f x) (λi=>HH (FG (AN (hd64 (A6 i) (xX i)) (hd64 (V6 (Iv x)) (V6 (Oc x)))) (A6 i) 2305843009213693952 (CV (xX i) 2305843009213693952)) (QW (BH (xX i))) (ZG (BD (xX i))) ((@Exists NN) (λj=>EV (And (AJ (Iv x)) (Fl (AJ (Oc x)) (BC (A6 j) (xX i)) (GJ (xX j) (sC (BH (A6 i)) (BH (xX i)))) AL)) (FG (AN (hd64 (A6 j) (xX j)) (hd64 (V6 (Iv x)) (V6 (Oc x)))) (A6 j) 2305843009213693952 (CV (xX j) 2305843009213693952)) (xX j) (xX i))) (AG (And (Vf (BH (A6 i))) (ZG (BD (A6 i)))) (AK (Gn (jC (Iv x) (Oc x))) (CS (Int.tdiv (Iv x) (BH (A6 i))))) (AK (Dj (jC (Iv x) (Oc x))) (CS (Int.tdiv (Oc x) (BH (A6 i))))))))):=by kernel_rfl
def AOT:=pD dI2 (λx=>.d (eRt (jC x.a x.b))) (λx=>[0<x.b/\x.b<=2305843009213693952 /\ -2305843009213693952<=x.a/\x.a<=2305843009213693952])
theorem CCP{n:Int}(h1:-2305843009213693952<=n)(h2:n<=2305843009213693952):grM ⟨n,WA 1 λ_=>IntKind.i64.wrap (-n)⟩=n.natAbs:=by
 rw[Ab (by omega) (by omega)]
 show Rb n (-n)=_
 unfold Rb;split<;>omega
theorem BVY:AH Try.prog ACQ AOT:=MC xI2 hI2 λx h=>Dy (A:=BJR x) (ren:=[]) (fz:=[]) BOH (by kernel_rfl) (AA CRQ AD) (by
 show BJZ x;rw[BNH]<;> delta LI cI Iv Oc HU EZ AK AN FI AE BA BN IQ BH CV NC Ff No A6 xX FD hd64 V6 mM sC Gn Dj CS AG AI AO AJ Fl DF VR IR BO GJ HD AQ MM EV BC GM AL EY HH BD GQ FG QW ZG Se ZE rB Ja Vf;try simp only[CC,CU]
 obtain⟨h1,h2,h3,h4⟩:0<x.b/\x.b<=2305843009213693952 /\ -2305843009213693952<=x.a/\x.a<=2305843009213693952:=h
 refine⟨⟨by omega,λj hj=>BIS _ _ _ hj⟩,⟨⟨x.a.natAbs,x.b.natAbs⟩,⟨(CCP h3 h4).symm,by show (x.b.natAbs:Int)=_;omega⟩,rfl,by show x.a.natAbs<=_;omega,by show x.b.natAbs<=_;omega⟩,λs hs=>⟨λhb=>?_,λhb=>?_⟩⟩
 ·have hb:s.b≠0:=by simpa using hb
  refine⟨by omega,⟨s.b,s.a % s.b⟩,⟨rfl,?_⟩,⟨?_,hs.2.2,?_⟩,Nat.mod_lt _ (by omega)⟩
  ·exact (Int.ofNat_tmod s.a s.b)
  ·show Nat.gcd s.b (s.a % s.b)=_
   rw[<-hs.1,Nat.gcd_comm s.b,<-Nat.gcd_rec,Nat.gcd_comm]
  ·exact Nat.le_trans (Nat.le_of_lt (Nat.mod_lt _ (by omega))) hs.2.2
 ·have hb:s.b=0:=by simpa using hb
  have hg:s.a=Nat.gcd x.a.natAbs x.b.natAbs:=by rw[<-hs.1,hb,Nat.gcd_zero_right]
  have hp:0<Nat.gcd x.a.natAbs x.b.natAbs:=Nat.gcd_pos_of_pos_right _ (by omega)
  have ha:∀z:Int,(z.tdiv (s.a:Int)).natAbs<=z.natAbs:=λz=>by rw[Int.natAbs_tdiv];exact Nat.div_le_self _ _
  have e1:=ha x.a
  have e2:=ha x.b
  refine⟨by omega,?_,?_⟩
  ·rw[Ab (by omega) (by omega)];unfold jC;rw[<-hg]
  ·rw[Ab (by omega) (by omega)];unfold jC;rw[<-hg])
theorem BBP{n d:Int}(h:0<d):0<(jC n d).d/\(jC n d).d<=d:=by
 have hd:((Nat.gcd n.natAbs d.natAbs:Nat):Int)∣d:=Int.ofNat_dvd_left.2 (Nat.gcd_dvd_right _ _)
 have hp:0<Nat.gcd n.natAbs d.natAbs:=Nat.gcd_pos_of_pos_right _ (by omega)
 obtain⟨c,hc⟩:=hd
 have hc0:0<c:=by
  rcases Int.lt_or_le 0 c with h1 | h1
  ·exact h1
  ·have:=Int.mul_nonneg (show 0<=((Nat.gcd n.natAbs d.natAbs:Nat):Int) by omega) (show 0 <= -c by omega)
   rw[Int.mul_neg,<-hc] at this;omega
 have e:(jC n d).d=c:=by
  show d.tdiv _=c
  generalize Nat.gcd n.natAbs d.natAbs=q at *
  rw[hc,Int.mul_tdiv_cancel_left _ (by omega)]
 rw[e]
 refine⟨hc0,?_⟩
 have:=Int.mul_le_mul_of_nonneg_right (show (1:Int)<=((Nat.gcd n.natAbs d.natAbs:Nat):Int) by omega) (show 0<=c by omega)
 rw[<-hc] at this;omega
theorem AED{n d:Int}(h:0<d):(jC n d).n*d=n*(jC n d).d:=by
 have hd:((Nat.gcd n.natAbs d.natAbs:Nat):Int)∣d:=Int.ofNat_dvd_left.2 (Nat.gcd_dvd_right _ _)
 have hn:((Nat.gcd n.natAbs d.natAbs:Nat):Int)∣n:=Int.ofNat_dvd_left.2 (Nat.gcd_dvd_left _ _)
 have hp:0<Nat.gcd n.natAbs d.natAbs:=Nat.gcd_pos_of_pos_right _ (by omega)
 show n.tdiv _*d=n*d.tdiv _
 generalize Nat.gcd n.natAbs d.natAbs=q at *
 obtain⟨c,rfl⟩:=hd
 obtain⟨e,rfl⟩:=hn
 rw[Int.mul_tdiv_cancel_left _ (by omega),Int.mul_tdiv_cancel_left _ (by omega)]
 rw[Int.mul_comm (q:Int) e,Int.mul_assoc]
def AMT(x:Bnd):Prop:=AX Try.prog (ann 16 [(A5,U8)]) Y6 (AF Y6) (xR2 x) (AC []) (.int (kW (wr (x.lo.n*x.hi.d)) (wr (x.hi.n*x.lo.d)))) [] [] []
abbrev J9:=@HMul.hMul Int Int Int (@instHMul Int Int.instMul)
abbrev nI:=Bnd.lo
abbrev mA:=Bnd.hi
abbrev JA a b:=CS (J9 a b)
abbrev NW a:=Dj (nI a)
abbrev OG a:=Gn (mA a)
abbrev NB a:=Dj (mA a)
abbrev OJ a:=Gn (nI a)
abbrev Xo a b:=wr (J9 a b)
attribute [go_sem] J9 nI mA JA NW OG NB OJ Xo
theorem BCQ(x:Bnd):(AMT x)=(AK (lO (Xo (OJ x) (NB x)) (Xo (OG x) (NW x))) (lO (JA (OJ x) (NB x)) (JA (OG x) (NW x)))):=by kernel_rfl
def ANP:=pD dR2 λx=>.int (kW (wr (x.lo.n*x.hi.d)) (wr (x.hi.n*x.lo.d)))
theorem ALK:AH Try.prog R9 ANP:=MC xR2 hR2 λg _=>Dy (A:=ann 16 [(A5,U8)]) (ren:=[]) (fz:=[]) BCN (by kernel_rfl) (AA AUD AD) (by
 show AMT g;rw[BCQ]<;> delta AK lO NC Gn Dj J9 nI mA CS JA Xo NB NW OG OJ;try rfl)
def A7(x:Ln)(s:Int):Rt:=jC (x.a1*(x.b0-x.a0)+(x.b1-x.a1)*(s-x.a0)) (x.b0-x.a0)
def PO(x:Ln):Prop:=0<=x.a0/\x.a0<x.b0/\x.b0<=2000/\0<=x.a1/\x.a1<=x.b1/\x.b1<=200000
def CHS(a:LnI):Prop:=AX Try.prog (ann 34 [(ACQ,AOT)]) BXH (AF BXH) (xLI a) (AC []) (.d (eRt (A7 a.x a.s))) [] [] []
abbrev bY:=LnI.x
abbrev iV:=LnI.s
abbrev F8:=A7
abbrev yX a:=LL (bY a)
abbrev lQ a:=GZ (bY a)
abbrev AHA a b c:=JA a (IR b c)
abbrev iU a b c:=AHA a b (yX c)
abbrev iQ a:=HV (bY a)
attribute [go_sem] bY iV F8 yX lQ AHA iU iQ
theorem CMS(a:LnI):(CHS a)=(AG (AQ (ER 0 (IR (lQ a) (yX a))) (DC (IR (lQ a) (yX a)) 2305843009213693952) (DC (-2305843009213693952) (DK (iU (iQ a) (lQ a) a) (iU (IR (JJ (bY a)) (iQ a)) (iV a) a))) (DC (DK (iU (iQ a) (lQ a) a) (iU (IR (JJ (bY a)) (iQ a)) (iV a) a)) 2305843009213693952)) (AK (Gn (F8 (bY a) (iV a))) (Gn (jC (DK (iU (iQ a) (lQ a) a) (iU (IR (JJ (bY a)) (iQ a)) (iV a) a)) (IR (lQ a) (yX a))))) (AK (Dj (F8 (bY a) (iV a))) (Dj (jC (DK (iU (iQ a) (lQ a) a) (iU (IR (JJ (bY a)) (iQ a)) (iV a) a)) (IR (lQ a) (yX a)))))):=by kernel_rfl
def AYY:=pD dLI (λa=>.d (eRt (A7 a.x a.s))) (λa=>[PO a.x,0<=a.s/\a.s<=2000])
theorem CFM{x:Ln}{t:Int}(h:PO x)(h2:0<=t/\t<=2000):(0<=x.a1*(x.b0-x.a0)/\x.a1*(x.b0-x.a0)<=400000000) /\ -400000000<=(x.b1-x.a1)*(t-x.a0)/\(x.b1-x.a1)*(t-x.a0)<=400000000:=by
 obtain⟨h3,h4,h5,h6,h7,h8⟩:=h
 exact⟨mulb (A:=200000) (B:=2000) (by omega) (by omega) (by omega) (by omega),CTE (A:=200000) (B:=2000) (by omega) (by omega) (by omega) (by omega)⟩
theorem BQV:AH Try.prog ALX AYY:=MC xLI hLI λa h=>Dy (A:=ann 34 [(ACQ,AOT)]) (ren:=[]) (fz:=[]) CMY (by kernel_rfl) (AA BVY AD) (by
 show CHS a;rw[CMS]<;> delta LL HV GZ JJ AK DC ER NC TD No Gn Dj J9 bY iV F8 CS AG IR DK AQ JA AHA yX lQ iQ iU;try simp only[CC,CU]
 have hb:=CFM h.1 h.2
 obtain⟨⟨h3,h4,h5,h6,h7,h8⟩,h9,h10⟩:=h
 rw[Ab (n:=a.x.b0-a.x.a0) (by omega) (by omega),Ab (n:=a.x.b1-a.x.a1) (by omega) (by omega),Ab (n:=a.s-a.x.a0) (by omega) (by omega),Ab (n:=a.x.a1*(a.x.b0-a.x.a0)) (by omega) (by omega),Ab (n:=(a.x.b1-a.x.a1)*(a.s-a.x.a0)) (by omega) (by omega),Ab (n:=a.x.a1*(a.x.b0-a.x.a0)+(a.x.b1-a.x.a1)*(a.s-a.x.a0)) (by omega) (by omega)]
 exact⟨⟨by omega,by omega,by omega,by omega⟩,rfl,rfl⟩)
theorem BEB{x:Ln}{t:Int}(h:PO x):0<(A7 x t).d/\(A7 x t).d<=2000:=by
 have:=BBP (n:=x.a1*(x.b0-x.a0)+(x.b1-x.a1)*(t-x.a0)) (d:=x.b0-x.a0) (by have:=h.2.1;omega)
 refine⟨this.1,?_⟩
 have h1:=h.1
 have h3:=h.2.2.1
 have:=this.2
 show (jC _ _).d<=_
 omega
def AII(r:Rt):Rt:=if r.n<0 then⟨0,1⟩ else if 200000*r.d<r.n then⟨200000,1⟩ else r
def AMH(r:Rt):Prop:=AX Try.prog (ann 17 []) X4 (AF X4) (xR1 r) (AC []) (.d (eRt (AII r))) [] [] []
abbrev hd81:=AII
abbrev Pj a:=NX a 0
attribute [go_sem] hd81 Pj
theorem BCB(r:Rt):(AMH r)=(EY (Pj (Gn r)) (CQ (Gn (hd81 r))) (AK (Dj (hd81 r)) 1) (EY (aD (Gn r) (JA 200000 (Dj r))) (AK (Gn (hd81 r)) 200000) (AK (Dj (hd81 r)) 1) (And (AK (Gn (hd81 r)) (Gn r)) (AK (Dj (hd81 r)) (Dj r))))):=by kernel_rfl
def Q3:=pD dR1 (λr=>.d (eRt (AII r))) (λr=>[0<r.d/\r.d<=4000000])
theorem BAX:AH Try.prog wX Q3:=MC xR1 hR1 λr h=>Dy (A:=ann 17 []) (ren:=[]) (fz:=[]) BED (by kernel_rfl) AD (by
 show AMH r;rw[BCB]<;> delta NX EZ AK aD NC Gn Dj J9 hd81 CS EY JA CQ Pj;try simp only[CC,CU]
 obtain⟨h1,h2⟩:0<r.d/\r.d<=4000000:=h
 rw[Ab (by omega) (by omega)]
 unfold AII
 refine⟨λh3=>by simp[h3],λh3=>⟨λh4=>?_,λh4=>?_⟩⟩
 ·rw[if_neg h3,if_pos (by omega)];exact⟨rfl,rfl⟩
 ·rw[if_neg h3,if_neg (by omega)];exact⟨rfl,rfl⟩)
def LZ(x:Ln)(s:Int):Rt:=AII (A7 x s)
def BHF(a:LnI):Prop:=AX Try.prog (ann 9 [(ALX,AYY),(wX,Q3)]) ATQ (AF ATQ) (xLI a) (AC []) (.d (eRt (LZ a.x a.s))) [] [] []
abbrev HI a:=DC a 2000
abbrev WS a:=EB a (HI a)
abbrev UA a b c d e f:=AI a b c (DC d e) f
abbrev RJ a:=DC a 200000
abbrev US a b c d e:=UA a b (BG c) d e (RJ e)
abbrev KM a b c d:=EB a (US (ER a b) (HI b) c c d)
abbrev PK a b c d:=KM (LL a) b c d
abbrev LU a:=PK a (GZ a) (HV a) (JJ a)
attribute [go_sem] HI WS UA RJ US KM PK LU
theorem BSU(a:LnI):(BHF a)=(AG (AQ (LU (bY a)) (WS (iV a)) (ER 0 (Dj (F8 (bY a) (iV a)))) (DC (Dj (F8 (bY a) (iV a))) 4000000)) (AK (Gn (LZ (bY a) (iV a))) (Gn (hd81 (F8 (bY a) (iV a))))) (AK (Dj (LZ (bY a) (iV a))) (Dj (hd81 (F8 (bY a) (iV a)))))):=by kernel_rfl
def ATU:=pD dLI (λa=>.d (eRt (LZ a.x a.s))) (λa=>[PO a.x,0<=a.s/\a.s<=2000])
theorem BRW:AH Try.prog ADH ATU:=MC xLI hLI λa h=>Dy (A:=ann 9 [(ALX,AYY),(wX,Q3)]) (ren:=[]) (fz:=[]) BUA (by kernel_rfl) (AA BQV (AA BAX AD)) (by
 show BHF a;rw[BSU]<;> delta LL HV GZ JJ AK DC ER Gn Dj bY iV F8 hd81 AG AI BG AQ EB HI RJ UA US KM PK LU WS;try simp only[CC,CU]
 have:=BEB (t:=a.s) h.1
 exact⟨⟨h.1,h.2,this.1,by omega⟩,rfl,rfl⟩)
def UC(p:Pt):Ln:=if p.st=2000 then⟨p.st-1,p.fl,p.st,p.fl⟩ else⟨p.st,p.fl,p.st+1,p.fl⟩
def BFL(p:Pt):Prop:=AX Try.prog (ann 22 []) ARD (AF ARD) (xP1 p) (AC []) (.d (eLn (UC p))) [] [] []
abbrev ZN:=@BEq.beq Int (@instBEqOfDecidableEq Int Int.instDecidableEq)
abbrev sA:=UC
abbrev HC a b c d:=AG (AK a b) c d
abbrev JO a b c d e:=HC a b (AK c d) e
abbrev KC a b c d e f:=JO a b c d (AK e f)
abbrev UG a b:=AK (LL a) b
abbrev Ox a:=IR a 1
attribute [go_sem] ZN sA HC JO KC UG Ox
theorem BPU(p:Pt):(BFL p)=(EY (ZN (fD p) 2000) (UG (sA p) (Ox (fD p))) (KC (HV (sA p)) (Qj p) (GZ (sA p)) (fD p) (JJ (sA p)) (Qj p)) (And (UG (sA p) (fD p)) (KC (HV (sA p)) (Qj p) (GZ (sA p)) (FP (fD p)) (JJ (sA p)) (Qj p)))):=by kernel_rfl
def xN:=pD dP1 (λp=>.d (eLn (UC p))) (λp=>[0<=p.st/\p.st<=2000])
theorem bS:AH Try.prog oN xN:=MC xP1 hP1 λp h=>Dy (A:=ann 22 []) (ren:=[]) (fz:=[]) BQR (by kernel_rfl) AD (by
 show BFL p;rw[BPU]<;> delta fD Qj LL HV GZ JJ EZ AK NC TD No ZN sA CS AG IR HC DK JO KC FP UG EY Ox
 obtain⟨h1,h2⟩:0<=p.st/\p.st<=2000:=h
 rw[Ab (by omega) (by omega),Ab (by omega) (by omega),BFX]
 unfold UC
 by_cases h:p.st=2000<;>simp[h])
def WE(x:Ln)(g:Gau):Bool:=decide (g.lo*(A7 x g.st).d<=(A7 x g.st).n)&&decide ((A7 x g.st).n<=g.hi*(A7 x g.st).d)
def Ht(g:Gau):Prop:=0<=g.st/\g.st<=2000/\0<=g.lo/\g.lo<=g.hi/\g.hi<=200000
def AYN(a:LnG):Prop:=AX Try.prog (ann 30 [(ALX,AYY)]) ADQ (AF ADQ) (xLG a) (AC []) (.bool (WE a.x a.g)) [] [] []
abbrev hd85:=LnG.x
abbrev hd86:=LnG.g
abbrev Cq a:=HI (KA a)
abbrev Ap a:=BG (KA a)
attribute [go_sem] hd85 hd86 Cq Ap
theorem BKH(a:LnG):(AYN a)=(And (AG (LU (hd85 a)) (Ap (hd86 a)) (Cq (hd86 a))) (WQ (WE (hd85 a) (hd86 a)) (N4 (Gn (F8 (hd85 a) (KA (hd86 a)))) (JA (LV (hd86 a)) (Dj (F8 (hd85 a) (KA (hd86 a)))))) (Gn (F8 (hd85 a) (KA (hd86 a)))) (JA (JY (hd86 a)) (Dj (F8 (hd85 a) (KA (hd86 a))))))):=by kernel_rfl
def ADV:=pD dLG (λa=>.bool (WE a.x a.g)) (λa=>[PO a.x,Ht a.g])
theorem AMX:AH Try.prog tJ ADV:=MC xLG hLG λa h=>Dy (A:=ann 30 [(ALX,AYY)]) (ren:=[]) (fz:=[]) BKG (by kernel_rfl) (AA BQV AD) (by
 show AYN a;rw[BKH]<;> delta LI Wo N4 hd7 UD KA LV JY LL HV GZ JJ DC ER NC Gn Dj J9 F8 hd85 hd86 CS AG AI BG EB HI JA RJ BY UA Cq US Ap KM PK HY LU WQ;try simp only[CC,CU]
 obtain⟨h1,h2,h3,h4,h5,h6⟩:PO a.x/\Ht a.g:=h
 have hd:=BEB (t:=a.g.st) h1
 have b1:=mulb (A:=200000) (B:=2000) h4 (by omega) (show 0<=(A7 a.x a.g.st).d by omega) hd.2
 have b2:=mulb (A:=200000) (B:=2000) (show 0<=a.g.hi by omega) (by omega) (show 0<=(A7 a.x a.g.st).d by omega) hd.2
 rw[Ab (by omega) (by omega),Ab (by omega) (by omega)]
 refine⟨⟨h1,h2,h3⟩,?_⟩
 unfold WE
 cases decide (a.g.lo*(A7 a.x a.g.st).d<=(A7 a.x a.g.st).n)<;>simp_all)
end Go.Bal
