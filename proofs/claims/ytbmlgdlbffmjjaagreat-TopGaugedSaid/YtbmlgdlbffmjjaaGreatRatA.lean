/- Package rating: numbers, lines, fractions. -/
import Derived.Test.YtbmlgdlbffmjjaaGreatRat0
set_option linter.unusedVariables false
set_option linter.unusedSimpArgs false
namespace Go.Bal
open Go Go.Sym Go.Proofs
def wr(n:Int):Int:=IntKind.i64.wrap n
def MN(a b c:Int):Bool:=decide (b<=a)&&decide (a<=c)
def riG(g:Gau):Bool:=MN g.st 0 2000&&MN g.lo 0 g.hi&&MN g.hi 0 200000
def riP(p:Pt):Bool:=MN p.st 0 2000&&MN p.fl 0 200000
def Zc(x:Ln):Bool:=riP ⟨x.a0,x.a1⟩&&riP ⟨x.b0,x.b1⟩&&decide (x.a0<x.b0)&&decide (x.a1<=x.b1)
def V_in(x:I3):Prop:=AX Try.prog (ann 15 []) F_in (AF F_in) (xI3 x) (AC []) (.bool (MN x.a x.b x.c)) [] [] []
abbrev LI:=@Eq Bool
abbrev hd2:=I3.a
abbrev hd3:=I3.b
abbrev hd4:=I3.c
abbrev Wo:=@cond Bool
abbrev G4:=λ(x0 x1:Int)=>decide (x0>=x1)
abbrev hd7:=λ(x0 x1:Int)=>decide (x0<=x1)
abbrev UD:=false
abbrev BZ a b:=Wo a b UD
abbrev HX a b c:=LI a (BZ b c)
abbrev XE a b c d:=HX a b (hd7 c d)
attribute [go_sem] LI hd2 hd3 hd4 Wo G4 hd7 UD BZ HX XE
theorem CQF(x:I3):(V_in x)=(XE (MN (hd2 x) (hd3 x) (hd4 x)) (G4 (hd2 x) (hd3 x)) (hd2 x) (hd4 x)):=by kernel_rfl
def Fh:=pD dI3 λx=>.bool (MN x.a x.b x.c)
theorem J6:AH Try.prog n_in Fh:=MA xI3 hI3 λx _=>Ee (A:=ann 15 []) (ren:=[]) (fz:=[]) CRS (by kernel_rfl) AD (by
 show V_in x;rw[CQF]<;> delta LI hd2 hd3 hd4 Wo G4 hd7 UD BZ HX XE;unfold MN;by_cases h:x.b<=x.a<;>simp[h])
def CJV(g:Gau):Prop:=AX Try.prog (ann 21 [(n_in,Fh)]) BOP (AF BOP) (xG1 g) (AC []) (.bool (riG g)) [] [] []
abbrev KA:=Gau.st
abbrev LX:=Gau.lo
abbrev JZ:=Gau.hi
abbrev FC a b:=MN a 0 b
attribute [go_sem] KA LX JZ FC
theorem CPM(g:Gau):(CJV g)=(HX (riG g) (BZ (FC (KA g) 2000) (FC (LX g) (JZ g))) (FC (JZ g) 200000)):=by kernel_rfl
def CID:=pD dG1 λg=>.bool (riG g)
theorem CNT:AH Try.prog BFV CID:=MA xG1 hG1 λg _=>Ee (A:=ann 21 [(n_in,Fh)]) (ren:=[]) (fz:=[]) CPC (by kernel_rfl) (AA J6 AD) (by
 show CJV g;rw[CPM]<;> delta LI Wo UD KA LX JZ BZ FC HX;unfold riG;cases MN g.st 0 2000<;>cases MN g.lo 0 g.hi<;>simp)
def CHR(g:Pt):Prop:=AX Try.prog (ann 11 [(n_in,Fh)]) BWA (AF BWA) (xP1 g) (AC []) (.bool (riP g)) [] [] []
abbrev dO:=Pt.st
abbrev Qe:=Pt.fl
attribute [go_sem] dO Qe
theorem CLE(g:Pt):(CHR g)=(HX (riP g) (FC (dO g) 2000) (FC (Qe g) 200000)):=by kernel_rfl
def BQK:=pD dP1 λg=>.bool (riP g)
theorem CMV:AH Try.prog BJX BQK:=MA xP1 hP1 λg _=>Ee (A:=ann 11 [(n_in,Fh)]) (ren:=[]) (fz:=[]) CLW (by kernel_rfl) (AA J6 AD) (by
 show CHR g;rw[CLE]<;> delta LI Wo UD dO Qe BZ FC HX;unfold riP;cases MN g.st 0 2000<;>simp)
def CKP(g:Ln):Prop:=AX Try.prog (ann 29 [(BJX,BQK)]) BOU (AF BOU) (xL1 g) (AC []) (.bool (Zc g)) [] [] []
abbrev T6:=Pt.mk
abbrev LQ:=Ln.a0
abbrev HV:=Ln.a1
abbrev GZ:=Ln.b0
abbrev JJ:=Ln.b1
abbrev NL:=λ(x0 x1:Int)=>decide (x0<x1)
attribute [go_sem] T6 LQ HV GZ JJ NL
theorem CLJ(g:Ln):(CKP g)=(XE (Zc g) (BZ (BZ (riP (T6 (LQ g) (HV g))) (riP (T6 (GZ g) (JJ g)))) (NL (LQ g) (GZ g))) (HV g) (JJ g)):=by kernel_rfl
def AYK:=pD dL1 λg=>.bool (Zc g)
theorem Y9:AH Try.prog AJF AYK:=MA xL1 hL1 λg _=>Ee (A:=ann 29 [(BJX,BQK)]) (ren:=[]) (fz:=[]) COE (by kernel_rfl) (AA CMV AD) (by
 show CKP g;rw[CLJ]<;> delta LI Wo hd7 UD T6 LQ HV GZ JJ NL BZ HX XE;unfold Zc;cases riP ⟨g.a0,g.a1⟩<;>cases riP ⟨g.b0,g.b1⟩<;>by_cases h:g.a0<g.b0<;>simp[h])
def BVB(x:Int):Prop:=AX Try.prog (ann 6 []) BDU (AF BDU) (xI1 x) (AC []) (.bool false) [] [] []
abbrev cN:=@bne Int (@instBEqOfDecidableEq Int Int.instDecidableEq)
attribute [go_sem] cN
theorem CES(x:Int):(BVB x)=(LI UD (cN x x)):=by kernel_rfl
def zB:=pD dI1 λ_=>.bool false
theorem BHT:AH Try.prog V7 zB:=MA xI1 hI1 λg _=>Ee (A:=ann 6 []) (ren:=[]) (fz:=[]) CBB (by kernel_rfl) AD (by
 show BVB g;rw[CES]<;> delta LI UD cN;simp)
def BTK(x:Int):Prop:=AX Try.prog (ann 6 []) BDT (AF BDT) (xI1 x) (AC []) (.bool false) [] [] []
theorem CCL(x:Int):(BTK x)=(LI UD (cN x x)):=by kernel_rfl
theorem CEW:AH Try.prog BAM zB:=MA xI1 hI1 λg _=>Ee (A:=ann 6 []) (ren:=[]) (fz:=[]) CBR (by kernel_rfl) AD (by
 show BTK g;rw[CCL]<;> delta LI UD cN;simp)
def BGY(x:I2):Prop:=AX Try.prog (ann 17 [(V7,zB)]) ASR (AF ASR) (xI2 x) (AC []) (.bool (decide (x.a<x.b))) [] [] []
abbrev Ij:=I2.a
abbrev Ow:=I2.b
abbrev HU:=true
abbrev PD a b:=Wo a HU b
abbrev yJ a b:=Wo a b a
attribute [go_sem] Ij Ow HU PD yJ
theorem BSR(x:I2):(BGY x)=(LI (NL (Ij x) (Ow x)) (PD (yJ UD (not UD)) (NL (Ij x) (Ow x)))):=by kernel_rfl
def BHX:=pD dI2 λx=>.bool (decide (x.a<x.b))
theorem BRB:AH Try.prog AUK BHX:=MA xI2 hI2 λg _=>Ee (A:=ann 17 [(V7,zB)]) (ren:=[]) (fz:=[]) BNU (by kernel_rfl) (AA BHT AD) (by
 show BGY g;rw[BSR]<;> delta LI Wo UD NL Ij Ow HU yJ PD;try simp)
def kJ(a b:Int):Int:=bif decide (a<b) then -1 else bif decide (a>b) then 1 else 0
def BPI(x:I2):Prop:=AX Try.prog (ann 20 [(V7,zB)]) BBJ (AF BBJ) (xI2 x) (AC []) (.int (kJ x.a x.b)) [] [] []
abbrev FA:=@cond Prop
abbrev AK:=@Eq Int
abbrev kW:=kJ
abbrev Xi:=λ(x0 x1:Int)=>decide (x0>x1)
abbrev CP a:=AK a 0
attribute [go_sem] FA AK kW Xi CP
theorem CFD(x:I2):(BPI x)=(FA (NL (Ij x) (Ow x)) (AK (kW (Ij x) (Ow x)) (-1)) (FA (Xi (Ij x) (Ow x)) (AK (kW (Ij x) (Ow x)) 1) (CP (kW (Ij x) (Ow x))))):=by kernel_rfl
def Z4:=pD dI2 λx=>.int (kJ x.a x.b)
theorem ARL:AH Try.prog zA Z4:=MA xI2 hI2 λg _=>Ee (A:=ann 20 [(V7,zB)]) (ren:=[]) (fz:=[]) CFJ (by kernel_rfl) (AA BHT AD) (by
 show BPI g;rw[CFD]<;> delta NL Ij Ow FA AK kW Xi CP;unfold kJ;by_cases h:g.a<g.b<;>by_cases h2:g.b<g.a<;>simp[h,h2])
structure IL where
 a:Int
 l:List Int
def grM(x:IL):Int:=x.l.foldl Ny x.a
structure NI where
 k:Nat
 m:Int
 deriving Inhabited
def C_gr:Ctr:={ α:=IL,xs:=λx=>[.int x.a,.d (II x.l)],L:=λ_=>[],val:=λx=>.int (grM x),keep:=λ_=>[],pre:=λx=>[decide (x.l.length<4611686018427387904)=true] }
def d_gr:List AVal->Heap->Option (IL×List (Nat×Nat)×List Nat)
 |[.d a,y],H=>match F6 y H with
  |some (l,f)=>some (⟨LO a,l⟩,[],f)
  |none=>none
 |_,_=>none
def A_gr(x:IL):Ann:={ ann 18 [] with loops:=λid=>if id=2 then some [{ α:=NI,dflt:=default,T:=λs=>⟨[(0,.int s.m),(7,.d (II x.l)),(8,.int x.l.length),(9,.int s.k)],[]⟩,inv:=λs=>s.k<=x.l.length/\s.m=(x.l.take s.k).foldl Ny x.a,meas:=λs=>x.l.length-s.k }] else none }
def V_gr(x:IL):Prop:=AX Try.prog (A_gr x) A1 (AF A1) (C_gr.xs x) (AC []) (C_gr.val x) [] [] []
abbrev hd33:=@Exists NI
abbrev yA:=NI.m
abbrev AN:=@Eq Nat
abbrev FI:=@List.length Int
abbrev T9:=IL.l
abbrev AE:=λ(f:Nat->Prop)=>∀(x:Nat),f x
abbrev BA:=λ(p q:Prop)=>p->q
abbrev BM:=@LT.lt Nat instLTNat
abbrev IR:=@gD Int Int.instInhabited
abbrev BH:=@Nat.cast Int instNatCastInt
abbrev Ki:=NI.k
abbrev CW:=@LE.le Nat instLENat
abbrev hd46:=@List.foldl Int Int
abbrev sE:=Ny
abbrev xY:=@List.take Int
abbrev hd49:=λ(f:NI->Prop)=>∀(x:NI),f x
abbrev DC:=@LE.le Int Int.instLEInt
abbrev ER:=@LT.lt Int Int.instLTInt
abbrev NE:=IntKind.wrap
abbrev TD:=@HAdd.hAdd Int Int Int (@instHAdd Int Int.instAdd)
abbrev KJ:=@HSub.hSub Nat Nat Nat (@instHSub Nat instSubNat)
abbrev EW a b c d:=FA a (And b c) d
abbrev HK a b c d e:=BA a (EW b c d e)
abbrev IA a b:=NL (BH a) b
abbrev LB a b:=IA a (BH b)
abbrev HE a b c d e f:=HK a (LB b c) d e f
abbrev AG a b c:=And a (And b c)
abbrev EV a b c d:=AG a b (BM c d)
abbrev SG a b c d e:=EV a b (KJ c d) e
abbrev TF a b c d e f:=SG a b c d (KJ e f)
abbrev EY a b c d e:=TF a b c d c e
abbrev uZ a:=FI (T9 a)
abbrev CJ a b c:=And (CW a b) c
abbrev AI a b c d e:=AG a b (AG c d e)
abbrev GH a b:=AK (BH a) b
abbrev CS a:=NE IntKind.i64 a
abbrev DN a b:=CS (TD a b)
abbrev FP a:=DN a 1
abbrev JA a b:=GH a (FP b)
abbrev AU a b:=JA a (BH b)
abbrev AJ a:=AK a a
abbrev EI a:=AJ (BH a)
abbrev PH a:=EI (FI a)
abbrev AO a b c:=BA (BM a b) c
abbrev HA a b c:=AO a (FI b) c
abbrev Mw a b c d:=HA a b (AJ (IR c d))
abbrev OV a b:=Mw a b b a
abbrev EF a:=AE (λi=>OV i a)
abbrev AR a:=AN a a
abbrev HT a:=AR (FI a)
abbrev BF a:=DC 0 a
abbrev EA a b:=And (BF a) b
abbrev DG a b:=ER a (BH b)
abbrev DT a b:=EA a (DG a b)
abbrev BE a b:=DT (BH a) b
abbrev FD a b c d:=AG a (CW b c) d
abbrev BD a:=GH a 0
attribute [go_sem] hd33 yA AN FI T9 AE BA BM IR BH Ki CW hd46 sE xY hd49 DC ER NE TD KJ EW HK IA LB HE AG EV SG TF EY uZ CJ AI GH CS DN FP JA AU AJ EI PH AO HA Mw OV EF AR HT BF EA DG DT BE FD BD
theorem CRN(x:IL):(V_gr x)=(And (hd33 (λi=>FD (AI (AK (yA i) (IL.a x)) (HT (T9 x)) (EF (T9 x)) (PH (T9 x)) (BD (Ki i))) (Ki i) (uZ x) (AK (yA i) (hd46 sE (IL.a x) (xY (Ki i) (T9 x)))))) (hd49 (λi=>HE (CJ (Ki i) (uZ x) (AK (yA i) (hd46 sE (IL.a x) (xY (Ki i) (T9 x))))) (Ki i) (uZ x) (BE (Ki i) (uZ x)) (hd33 (λj=>EY (AI (AK (yA j) (sE (yA i) (IR (T9 x) (Ki i)))) (HT (T9 x)) (EF (T9 x)) (PH (T9 x)) (AU (Ki j) (Ki i))) (CJ (Ki j) (uZ x) (AK (yA j) (hd46 sE (IL.a x) (xY (Ki j) (T9 x))))) (uZ x) (Ki j) (Ki i))) (AK (grM x) (yA i))))):=by kernel_rfl
theorem VQ{α:Type}[Inhabited α]{l:List α}{k:Nat}(h:k<l.length):l.take (k+1)=l.take k ++ [gD l k]:=by
 rw[List.take_add_one,List.getElem?_eq_getElem h];simp[gD,List.getD_eq_getElem?_getD,h]
theorem p_gr(x:IL)(h:x.l.length<4611686018427387904):V_gr x:=by
 rw[CRN]<;> delta NL FA AK hd33 yA AN FI T9 AE BA BM IR BH Ki CW hd46 sE xY hd49 DC ER NE TD KJ CS AG AI AO AJ AR BF DN GH HA EI EA DG HT FP EV DT Mw JA AU EW OV BE EF IA CJ LB HK BD HE FD SG TF EY PH uZ;try simp only[CC,CU]
 refine⟨⟨⟨0,x.a⟩,⟨rfl,rfl⟩,Nat.zero_le _,rfl⟩,λs hs=>⟨λhlt=>⟨by omega,⟨s.k+1,Ny s.m (gD x.l s.k)⟩,⟨rfl,(GJ (by omega)).symm⟩,⟨⟨by show s.k+1<=_;omega,?_⟩,?_⟩⟩,λhge=>?_⟩⟩
 ·show Ny s.m (gD x.l s.k)=_
  rw[VQ (by omega),List.foldl_append,hs.2];rfl
 ·show x.l.length-(s.k+1)<_;omega
 ·rw[hs.2];unfold grM;rw[List.take_of_length_le (by omega)]
theorem CQA:AH Try.prog zV (C_gr.spec d_gr):=PU C_gr A_gr [] [] AWS (λ_=>by kernel_rfl) (λ_=>AD) (λx h=>p_gr x (of_decide_eq_true h)) (λ_=>RR rfl rfl) _
def lK(n d:Int):Rt:=⟨n.tdiv (Nat.gcd n.natAbs d.natAbs:Nat),d.tdiv (Nat.gcd n.natAbs d.natAbs:Nat)⟩
structure NN where
 a:Nat
 b:Nat
 deriving Inhabited
def BHM(x:I2):Ann:={ ann 26 [(zV,C_gr.spec d_gr)] with loops:=λid=>if id=2 then some [{ α:=NN,dflt:=default,T:=λs=>⟨[(0,.int x.a),(1,.int x.b),(4,.bptr 201 0),(5,.int s.a),(6,.int s.b)],[(201,.live (.box [.int 0,.int 0]))]⟩,inv:=λs=>Nat.gcd s.a s.b=Nat.gcd x.a.natAbs x.b.natAbs/\s.a<=2305843009213693952/\s.b<=2305843009213693952,meas:=λs=>s.b,first:=[(201,1000)] }] else none }
def BJJ(x:I2):Prop:=AX Try.prog (BHM x) APB (AF APB) (xI2 x) (AC []) (.d (eRt (lK x.a x.b))) [] [] []
abbrev Ff:=@VZ Int
abbrev Nn:=@HSub.hSub Int Int Int (@instHSub Int Int.instSub)
abbrev A2:=NN.a
abbrev xU:=NN.b
abbrev FF:=Int.ofNat
abbrev hd64:=Nat.gcd
abbrev W2:=Int.natAbs
abbrev lZ:=False
abbrev sD:=Int.tmod
abbrev Gg:=Rt.n
abbrev Dw:=Rt.d
abbrev YD a:=BA a lZ
abbrev Sf a:=(@Ne Int) a 0
abbrev Gh a b c d:=AI a b c d d
abbrev BO a:=AJ (FF a)
abbrev AL:=BO 0
abbrev BC a b:=GH a (BH b)
abbrev RJ a:=cN a 0
abbrev AQ a b c d:=And a (AG b c d)
abbrev ZC a b c d e:=AQ a b (CW c d) e
abbrev IV a b:=CS (Nn a b)
abbrev Tk a:=IV 0 a
abbrev DR a:=LI a a
abbrev GW:=DR HU
abbrev ML a b c:=AK (IR a b) c
abbrev qJ a b c d e:=HA a b (ML c d e)
abbrev Ii a b c d:=qJ a b b c d
abbrev VS a:=CW a a
abbrev GM a b:=AN (FI a) b
attribute [go_sem] Ff Nn A2 xU FF hd64 W2 lZ sD Gg Dw YD Sf Gh BO AL BC RJ AQ ZC IV Tk DR GW ML qJ Ii VS GM
theorem BUC(x:I2):(BJJ x)=(AG (AI (AJ (Ij x)) (GM (Ff 1 (λi=>Tk (Ij x))) 1) (VS 1) (AE (λi=>Ii i (Ff 1 (λj=>Tk (Ij x))) i (Tk (Ij x)))) GW) ((@Exists NN) (λi=>ZC (And (AJ (Ij x)) (Gh (AJ (Ow x)) (GH (A2 i) (grM (IL.mk (Ij x) (Ff 1 (λj=>Tk (Ij x)))))) (GH (xU i) (Ow x)) AL)) (AN (hd64 (A2 i) (xU i)) (hd64 (W2 (Ij x)) (W2 (Ow x)))) (A2 i) 2305843009213693952 (CW (xU i) 2305843009213693952))) ((λ(f:NN->Prop)=>∀(x:NN),f x) (λi=>HK (FD (AN (hd64 (A2 i) (xU i)) (hd64 (W2 (Ij x)) (W2 (Ow x)))) (A2 i) 2305843009213693952 (CW (xU i) 2305843009213693952)) (RJ (BH (xU i))) (YD (BD (xU i))) ((@Exists NN) (λj=>EV (And (AJ (Ij x)) (Gh (AJ (Ow x)) (BC (A2 j) (xU i)) (GH (xU j) (sD (BH (A2 i)) (BH (xU i)))) AL)) (FD (AN (hd64 (A2 j) (xU j)) (hd64 (W2 (Ij x)) (W2 (Ow x)))) (A2 j) 2305843009213693952 (CW (xU j) 2305843009213693952)) (xU j) (xU i))) (AG (And (Sf (BH (A2 i))) (YD (BD (A2 i)))) (AK (Gg (lK (Ij x) (Ow x))) (CS (Int.tdiv (Ij x) (BH (A2 i))))) (AK (Dw (lK (Ij x) (Ow x))) (CS (Int.tdiv (Ow x) (BH (A2 i))))))))):=by kernel_rfl
def ARH:=pD dI2 (λx=>.d (eRt (lK x.a x.b))) (λx=>[0<x.b/\x.b<=2305843009213693952 /\ -2305843009213693952<=x.a/\x.a<=2305843009213693952])
theorem CDE{n:Int}(h1:-2305843009213693952<=n)(h2:n<=2305843009213693952):grM ⟨n,VZ 1 λ_=>IntKind.i64.wrap (-n)⟩=n.natAbs:=by
 rw[ZW (by omega) (by omega)]
 show Ny n (-n)=_
 unfold Ny;split<;>omega
theorem BUR:AH Try.prog ACW ARH:=MA xI2 hI2 λx h=>Ee (A:=BHM x) (ren:=[]) (fz:=[]) BXO (by kernel_rfl) (AA CQA AD) (by
 show BJJ x;rw[BUC]<;> delta LI cN Ij Ow HU FA AK AN FI AE BA BM IR BH CW NE Ff Nn A2 xU FF hd64 W2 lZ sD Gg Dw CS AG AI AO AJ Gh DR VS IV BO GH HA AQ ML EV BC GM AL EW HK BD GW FD RJ YD Tk ZC qJ Ii Sf;try simp only[CC,CU]
 obtain⟨h1,h2,h3,h4⟩:0<x.b/\x.b<=2305843009213693952 /\ -2305843009213693952<=x.a/\x.a<=2305843009213693952:=h
 refine⟨⟨by omega,λj hj=>BFS _ _ _ hj⟩,⟨⟨x.a.natAbs,x.b.natAbs⟩,⟨(CDE h3 h4).symm,by show (x.b.natAbs:Int)=_;omega⟩,rfl,by show x.a.natAbs<=_;omega,by show x.b.natAbs<=_;omega⟩,λs hs=>⟨λhb=>?_,λhb=>?_⟩⟩
 ·have hb:s.b≠0:=by simpa using hb
  refine⟨by omega,⟨s.b,s.a % s.b⟩,⟨rfl,?_⟩,⟨?_,hs.2.2,?_⟩,Nat.mod_lt _ (by omega)⟩
  ·exact (Int.ofNat_tmod s.a s.b)
  ·show Nat.gcd s.b (s.a % s.b)=_
   rw[<-hs.1,Nat.gcd_comm s.b,<-Nat.gcd_rec,Nat.gcd_comm]
  ·exact Nat.le_trans (Nat.le_of_lt (Nat.mod_lt _ (by omega))) hs.2.2
 ·have hb:s.b=0:=by simpa using hb
  have hg:s.a=Nat.gcd x.a.natAbs x.b.natAbs:=by rw[<-hs.1,hb,Nat.gcd_zero_right]
  have hp:0<Nat.gcd x.a.natAbs x.b.natAbs:=Nat.gcd_pos_of_pos_right _ (by omega)
  have ha:∀z:Int,(z.tdiv (s.a:Int)).natAbs<=z.natAbs:=λz=>by rw[Int.natAbs_tdiv];exact Nat.div_le_self _ _
  have e1:=ha x.a
  have e2:=ha x.b
  refine⟨by omega,?_,?_⟩
  ·rw[ZW (by omega) (by omega)];unfold lK;rw[<-hg]
  ·rw[ZW (by omega) (by omega)];unfold lK;rw[<-hg])
theorem BEI{n d:Int}(h:0<d):0<(lK n d).d/\(lK n d).d<=d:=by
 have hd:((Nat.gcd n.natAbs d.natAbs:Nat):Int)∣d:=Int.ofNat_dvd_left.2 (Nat.gcd_dvd_right _ _)
 have hp:0<Nat.gcd n.natAbs d.natAbs:=Nat.gcd_pos_of_pos_right _ (by omega)
 obtain⟨c,hc⟩:=hd
 have hc0:0<c:=by
  rcases Int.lt_or_le 0 c with h1 | h1
  ·exact h1
  ·have:=Int.mul_nonneg (show 0<=((Nat.gcd n.natAbs d.natAbs:Nat):Int) by omega) (show 0 <= -c by omega)
   rw[Int.mul_neg,<-hc] at this;omega
 have e:(lK n d).d=c:=by
  show d.tdiv _=c
  generalize Nat.gcd n.natAbs d.natAbs=q at *
  rw[hc,Int.mul_tdiv_cancel_left _ (by omega)]
 rw[e]
 refine⟨hc0,?_⟩
 have:=Int.mul_le_mul_of_nonneg_right (show (1:Int)<=((Nat.gcd n.natAbs d.natAbs:Nat):Int) by omega) (show 0<=c by omega)
 rw[<-hc] at this;omega
theorem AIR{n d:Int}(h:0<d):(lK n d).n*d=n*(lK n d).d:=by
 have hd:((Nat.gcd n.natAbs d.natAbs:Nat):Int)∣d:=Int.ofNat_dvd_left.2 (Nat.gcd_dvd_right _ _)
 have hn:((Nat.gcd n.natAbs d.natAbs:Nat):Int)∣n:=Int.ofNat_dvd_left.2 (Nat.gcd_dvd_left _ _)
 have hp:0<Nat.gcd n.natAbs d.natAbs:=Nat.gcd_pos_of_pos_right _ (by omega)
 show n.tdiv _*d=n*d.tdiv _
 generalize Nat.gcd n.natAbs d.natAbs=q at *
 obtain⟨c,rfl⟩:=hd
 obtain⟨e,rfl⟩:=hn
 rw[Int.mul_tdiv_cancel_left _ (by omega),Int.mul_tdiv_cancel_left _ (by omega)]
 rw[Int.mul_comm (q:Int) e,Int.mul_assoc]
def ANE(x:Bnd):Prop:=AX Try.prog (ann 16 [(zA,Z4)]) P2 (AF P2) (xR2 x) (AC []) (.int (kJ (wr (x.lo.n*x.hi.d)) (wr (x.hi.n*x.lo.d)))) [] [] []
abbrev D8:=@HMul.hMul Int Int Int (@instHMul Int Int.instMul)
abbrev mZ:=Bnd.lo
abbrev mU:=Bnd.hi
abbrev JB a b:=CS (D8 a b)
abbrev NG a:=Dw (mZ a)
abbrev OQ a:=Gg (mU a)
abbrev NA a:=Dw (mU a)
abbrev OI a:=Gg (mZ a)
abbrev aP a b:=wr (D8 a b)
attribute [go_sem] D8 mZ mU JB NG OQ NA OI aP
theorem BBB(x:Bnd):(ANE x)=(AK (kW (aP (OI x) (NA x)) (aP (OQ x) (NG x))) (kW (JB (OI x) (NA x)) (JB (OQ x) (NG x)))):=by kernel_rfl
def ANS:=pD dR2 λx=>.int (kJ (wr (x.lo.n*x.hi.d)) (wr (x.hi.n*x.lo.d)))
theorem AKZ:AH Try.prog X8 ANS:=MA xR2 hR2 λg _=>Ee (A:=ann 16 [(zA,Z4)]) (ren:=[]) (fz:=[]) BCI (by kernel_rfl) (AA ARL AD) (by
 show ANE g;rw[BBB]<;> delta AK kW NE Gg Dw D8 mZ mU CS JB aP NA NG OQ OI;try rfl)
def zK(x:Ln)(s:Int):Rt:=lK (x.a1*(x.b0-x.a0)+(x.b1-x.a1)*(s-x.a0)) (x.b0-x.a0)
def PT(x:Ln):Prop:=0<=x.a0/\x.a0<x.b0/\x.b0<=2000/\0<=x.a1/\x.a1<=x.b1/\x.b1<=200000
def CKD(a:LnI):Prop:=AX Try.prog (ann 34 [(ACW,ARH)]) BXZ (AF BXZ) (xLI a) (AC []) (.d (eRt (zK a.x a.s))) [] [] []
abbrev eE:=LnI.x
abbrev kG:=LnI.s
abbrev I0:=zK
abbrev C1 a:=LQ (eE a)
abbrev kY a:=GZ (eE a)
abbrev AFI a b c:=JB a (IV b c)
abbrev jS a b c:=AFI a b (C1 c)
abbrev jW a:=HV (eE a)
attribute [go_sem] eE kG I0 C1 kY AFI jS jW
theorem CNI(a:LnI):(CKD a)=(AG (AQ (ER 0 (IV (kY a) (C1 a))) (DC (IV (kY a) (C1 a)) 2305843009213693952) (DC (-2305843009213693952) (DN (jS (jW a) (kY a) a) (jS (IV (JJ (eE a)) (jW a)) (kG a) a))) (DC (DN (jS (jW a) (kY a) a) (jS (IV (JJ (eE a)) (jW a)) (kG a) a)) 2305843009213693952)) (AK (Gg (I0 (eE a) (kG a))) (Gg (lK (DN (jS (jW a) (kY a) a) (jS (IV (JJ (eE a)) (jW a)) (kG a) a)) (IV (kY a) (C1 a))))) (AK (Dw (I0 (eE a) (kG a))) (Dw (lK (DN (jS (jW a) (kY a) a) (jS (IV (JJ (eE a)) (jW a)) (kG a) a)) (IV (kY a) (C1 a)))))):=by kernel_rfl
def AYL:=pD dLI (λa=>.d (eRt (zK a.x a.s))) (λa=>[PT a.x,0<=a.s/\a.s<=2000])
theorem CAI{x:Ln}{t:Int}(h:PT x)(h2:0<=t/\t<=2000):(0<=x.a1*(x.b0-x.a0)/\x.a1*(x.b0-x.a0)<=400000000) /\ -400000000<=(x.b1-x.a1)*(t-x.a0)/\(x.b1-x.a1)*(t-x.a0)<=400000000:=by
 obtain⟨h3,h4,h5,h6,h7,h8⟩:=h
 exact⟨mulb (A:=200000) (B:=2000) (by omega) (by omega) (by omega) (by omega),CQH (A:=200000) (B:=2000) (by omega) (by omega) (by omega) (by omega)⟩
theorem BOG:AH Try.prog AOD AYL:=MA xLI hLI λa h=>Ee (A:=ann 34 [(ACW,ARH)]) (ren:=[]) (fz:=[]) CNQ (by kernel_rfl) (AA BUR AD) (by
 show CKD a;rw[CNI]<;> delta LQ HV GZ JJ AK DC ER NE TD Nn Gg Dw D8 eE kG I0 CS AG IV DN AQ JB AFI C1 kY jW jS;try simp only[CC,CU]
 have hb:=CAI h.1 h.2
 obtain⟨⟨h3,h4,h5,h6,h7,h8⟩,h9,h10⟩:=h
 rw[ZW (n:=a.x.b0-a.x.a0) (by omega) (by omega),ZW (n:=a.x.b1-a.x.a1) (by omega) (by omega),ZW (n:=a.s-a.x.a0) (by omega) (by omega),ZW (n:=a.x.a1*(a.x.b0-a.x.a0)) (by omega) (by omega),ZW (n:=(a.x.b1-a.x.a1)*(a.s-a.x.a0)) (by omega) (by omega),ZW (n:=a.x.a1*(a.x.b0-a.x.a0)+(a.x.b1-a.x.a1)*(a.s-a.x.a0)) (by omega) (by omega)]
 exact⟨⟨by omega,by omega,by omega,by omega⟩,rfl,rfl⟩)
theorem BCF{x:Ln}{t:Int}(h:PT x):0<(zK x t).d/\(zK x t).d<=2000:=by
 have:=BEI (n:=x.a1*(x.b0-x.a0)+(x.b1-x.a1)*(t-x.a0)) (d:=x.b0-x.a0) (by have:=h.2.1;omega)
 refine⟨this.1,?_⟩
 have h1:=h.1
 have h3:=h.2.2.1
 have:=this.2
 show (lK _ _).d<=_
 omega
def AIM(r:Rt):Rt:=if r.n<0 then⟨0,1⟩ else if 200000*r.d<r.n then⟨200000,1⟩ else r
def ANM(r:Rt):Prop:=AX Try.prog (ann 17 []) Z6 (AF Z6) (xR1 r) (AC []) (.d (eRt (AIM r))) [] [] []
abbrev hd81:=AIM
abbrev Pw a:=NL a 0
attribute [go_sem] hd81 Pw
theorem BAP(r:Rt):(ANM r)=(EW (Pw (Gg r)) (CP (Gg (hd81 r))) (AK (Dw (hd81 r)) 1) (EW (Xi (Gg r) (JB 200000 (Dw r))) (AK (Gg (hd81 r)) 200000) (AK (Dw (hd81 r)) 1) (And (AK (Gg (hd81 r)) (Gg r)) (AK (Dw (hd81 r)) (Dw r))))):=by kernel_rfl
def Z1:=pD dR1 (λr=>.d (eRt (AIM r))) (λr=>[0<r.d/\r.d<=4000000])
theorem AZP:AH Try.prog wW Z1:=MA xR1 hR1 λr h=>Ee (A:=ann 17 []) (ren:=[]) (fz:=[]) AZY (by kernel_rfl) AD (by
 show ANM r;rw[BAP]<;> delta NL FA AK Xi NE Gg Dw D8 hd81 CS EW JB CP Pw;try simp only[CC,CU]
 obtain⟨h1,h2⟩:0<r.d/\r.d<=4000000:=h
 rw[ZW (by omega) (by omega)]
 unfold AIM
 refine⟨λh3=>by simp[h3],λh3=>⟨λh4=>?_,λh4=>?_⟩⟩
 ·rw[if_neg h3,if_pos (by omega)];exact⟨rfl,rfl⟩
 ·rw[if_neg h3,if_neg (by omega)];exact⟨rfl,rfl⟩)
def MB(x:Ln)(s:Int):Rt:=AIM (zK x s)
def BFE(a:LnI):Prop:=AX Try.prog (ann 9 [(AOD,AYL),(wW,Z1)]) ARW (AF ARW) (xLI a) (AC []) (.d (eRt (MB a.x a.s))) [] [] []
abbrev HJ a:=DC a 2000
abbrev WF a:=EA a (HJ a)
abbrev UC a b c d e f:=AI a b c (DC d e) f
abbrev RB a:=DC a 200000
abbrev UZ a b c d e:=UC a b (BF c) d e (RB e)
abbrev KG a b c d:=EA a (UZ (ER a b) (HJ b) c c d)
abbrev PC a b c d:=KG (LQ a) b c d
abbrev LU a:=PC a (GZ a) (HV a) (JJ a)
attribute [go_sem] HJ WF UC RB UZ KG PC LU
theorem BNT(a:LnI):(BFE a)=(AG (AQ (LU (eE a)) (WF (kG a)) (ER 0 (Dw (I0 (eE a) (kG a)))) (DC (Dw (I0 (eE a) (kG a))) 4000000)) (AK (Gg (MB (eE a) (kG a))) (Gg (hd81 (I0 (eE a) (kG a))))) (AK (Dw (MB (eE a) (kG a))) (Dw (hd81 (I0 (eE a) (kG a)))))):=by kernel_rfl
def AQG:=pD dLI (λa=>.d (eRt (MB a.x a.s))) (λa=>[PT a.x,0<=a.s/\a.s<=2000])
theorem BOL:AH Try.prog ABX AQG:=MA xLI hLI λa h=>Ee (A:=ann 9 [(AOD,AYL),(wW,Z1)]) (ren:=[]) (fz:=[]) BSJ (by kernel_rfl) (AA BOG (AA AZP AD)) (by
 show BFE a;rw[BNT]<;> delta LQ HV GZ JJ AK DC ER Gg Dw eE kG I0 hd81 AG AI BF AQ EA HJ RB UC UZ KG PC LU WF;try simp only[CC,CU]
 have:=BCF (t:=a.s) h.1
 exact⟨⟨h.1,h.2,this.1,by omega⟩,rfl,rfl⟩)
def TG(p:Pt):Ln:=if p.st=2000 then⟨p.st-1,p.fl,p.st,p.fl⟩ else⟨p.st,p.fl,p.st+1,p.fl⟩
def BGE(p:Pt):Prop:=AX Try.prog (ann 22 []) ATX (AF ATX) (xP1 p) (AC []) (.d (eLn (TG p))) [] [] []
abbrev ZJ:=@BEq.beq Int (@instBEqOfDecidableEq Int Int.instDecidableEq)
abbrev rZ:=TG
abbrev HB a b c d:=AG (AK a b) c d
abbrev JK a b c d e:=HB a b (AK c d) e
abbrev KD a b c d e f:=JK a b c d (AK e f)
abbrev UH a b:=AK (LQ a) b
abbrev Re a:=IV a 1
attribute [go_sem] ZJ rZ HB JK KD UH Re
theorem BSX(p:Pt):(BGE p)=(EW (ZJ (dO p) 2000) (UH (rZ p) (Re (dO p))) (KD (HV (rZ p)) (Qe p) (GZ (rZ p)) (dO p) (JJ (rZ p)) (Qe p)) (And (UH (rZ p) (dO p)) (KD (HV (rZ p)) (Qe p) (GZ (rZ p)) (FP (dO p)) (JJ (rZ p)) (Qe p)))):=by kernel_rfl
def xE:=pD dP1 (λp=>.d (eLn (TG p))) (λp=>[0<=p.st/\p.st<=2000])
theorem fV:AH Try.prog nM xE:=MA xP1 hP1 λp h=>Ee (A:=ann 22 []) (ren:=[]) (fz:=[]) BWK (by kernel_rfl) AD (by
 show BGE p;rw[BSX]<;> delta dO Qe LQ HV GZ JJ FA AK NE TD Nn ZJ rZ CS AG IV HB DN JK KD FP UH EW Re
 obtain⟨h1,h2⟩:0<=p.st/\p.st<=2000:=h
 rw[ZW (by omega) (by omega),ZW (by omega) (by omega),BHY]
 unfold TG
 by_cases h:p.st=2000<;>simp[h])
def VW(x:Ln)(g:Gau):Bool:=decide (g.lo*(zK x g.st).d<=(zK x g.st).n)&&decide ((zK x g.st).n<=g.hi*(zK x g.st).d)
def Ho(g:Gau):Prop:=0<=g.st/\g.st<=2000/\0<=g.lo/\g.lo<=g.hi/\g.hi<=200000
def AYE(a:LnG):Prop:=AX Try.prog (ann 30 [(AOD,AYL)]) AIP (AF AIP) (xLG a) (AC []) (.bool (VW a.x a.g)) [] [] []
abbrev hd85:=LnG.x
abbrev hd86:=LnG.g
abbrev Bf a:=HJ (KA a)
abbrev Ch a:=BF (KA a)
attribute [go_sem] hd85 hd86 Bf Ch
theorem BKF(a:LnG):(AYE a)=(And (AG (LU (hd85 a)) (Ch (hd86 a)) (Bf (hd86 a))) (XE (VW (hd85 a) (hd86 a)) (G4 (Gg (I0 (hd85 a) (KA (hd86 a)))) (JB (LX (hd86 a)) (Dw (I0 (hd85 a) (KA (hd86 a)))))) (Gg (I0 (hd85 a) (KA (hd86 a)))) (JB (JZ (hd86 a)) (Dw (I0 (hd85 a) (KA (hd86 a))))))):=by kernel_rfl
def ALH:=pD dLG (λa=>.bool (VW a.x a.g)) (λa=>[PT a.x,Ho a.g])
theorem ANI:AH Try.prog vC ALH:=MA xLG hLG λa h=>Ee (A:=ann 30 [(AOD,AYL)]) (ren:=[]) (fz:=[]) BMT (by kernel_rfl) (AA BOG AD) (by
 show AYE a;rw[BKF]<;> delta LI Wo G4 hd7 UD KA LX JZ LQ HV GZ JJ DC ER NE Gg Dw D8 I0 hd85 hd86 CS AG AI BF EA HJ JB RB BZ UC Bf UZ Ch KG PC HX LU XE;try simp only[CC,CU]
 obtain⟨h1,h2,h3,h4,h5,h6⟩:PT a.x/\Ho a.g:=h
 have hd:=BCF (t:=a.g.st) h1
 have b1:=mulb (A:=200000) (B:=2000) h4 (by omega) (show 0<=(zK a.x a.g.st).d by omega) hd.2
 have b2:=mulb (A:=200000) (B:=2000) (show 0<=a.g.hi by omega) (by omega) (show 0<=(zK a.x a.g.st).d by omega) hd.2
 rw[ZW (by omega) (by omega),ZW (by omega) (by omega)]
 refine⟨⟨h1,h2,h3⟩,?_⟩
 unfold VW
 cases decide (a.g.lo*(zK a.x a.g.st).d<=(zK a.x a.g.st).n)<;>simp_all)
end Go.Bal
