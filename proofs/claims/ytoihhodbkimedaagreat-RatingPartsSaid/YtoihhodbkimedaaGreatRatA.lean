/- Package rating: numbers, lines, fractions. -/
import Derived.Test.YtoihhodbkimedaaGreatRat0
set_option linter.unusedVariables false
set_option linter.unusedSimpArgs false
namespace Go.Bal
open Go Go.Sym Go.Proofs
def wr(n:Int):Int:=IntKind.i64.wrap n
def QY(a b c:Int):Bool:=decide (b<=a)&&decide (a<=c)
def riG(g:Gau):Bool:=QY g.st 0 2000&&QY g.lo 0 g.hi&&QY g.hi 0 200000
def riP(p:Pt):Bool:=QY p.st 0 2000&&QY p.fl 0 200000
def Va(x:Ln):Bool:=riP ⟨x.a0,x.a1⟩&&riP ⟨x.b0,x.b1⟩&&decide (x.a0<x.b0)&&decide (x.a1<=x.b1)
def V_in(x:I3):Prop:=BQ Try.prog (ann 15 []) F_in (AI F_in) (xI3 x) (AD []) (.bool (QY x.a x.b x.c)) [] [] []
abbrev JT:=@Eq Bool
abbrev qD:=@cond Bool
abbrev hd6:=λ(x0 x1:Int)=>decide (x0>=x1)
abbrev F3:=λ(x0 x1:Int)=>decide (x0<=x1)
abbrev XL:=false
abbrev FU a b:=qD a b XL
abbrev WZ a b c:=JT a (FU b c)
attribute [go_sem] JT qD hd6 F3 XL FU WZ
theorem CTL(x:I3):(V_in x)=(WZ (QY (I3.a x) (I3.b x) (I3.c x)) (hd6 (I3.a x) (I3.b x)) (F3 (I3.a x) (I3.c x))):=by kernel_rfl
def s_in:=pD dI3 λx=>.bool (QY x.a x.b x.c)
theorem uN:AJ Try.prog n_in s_in:=UX xI3 hI3 λx _=>Mn (A:=ann 15 []) (ren:=[]) (fz:=[]) CSH (by kernel_rfl) AE (by
 show V_in x;rw[CTL]<;> delta JT qD hd6 F3 XL FU WZ;unfold QY;by_cases h:x.b<=x.a<;>simp[h])
def CMS(g:Gau):Prop:=BQ Try.prog (ann 21 [(n_in,s_in)]) BZI (AI BZI) (xG1 g) (AD []) (.bool (riG g)) [] [] []
abbrev EE:=Gau.st
abbrev EC:=Gau.lo
abbrev DP:=Gau.hi
abbrev M7 a b c:=FU (FU a b) c
abbrev Hs a b:=QY a 0 b
attribute [go_sem] EE EC DP M7 Hs
theorem COF(g:Gau):(CMS g)=(JT (riG g) (M7 (Hs (EE g) 2000) (Hs (EC g) (DP g)) (Hs (DP g) 200000))):=by kernel_rfl
def CMD:=pD dG1 λg=>.bool (riG g)
theorem CNI:AJ Try.prog BNW CMD:=UX xG1 hG1 λg _=>Mn (A:=ann 21 [(n_in,s_in)]) (ren:=[]) (fz:=[]) CPK (by kernel_rfl) (AC uN AE) (by
 show CMS g;rw[COF]<;> delta JT qD XL EE EC DP FU M7 Hs;unfold riG;cases QY g.st 0 2000<;>cases QY g.lo 0 g.hi<;>simp)
def CJV(g:Pt):Prop:=BQ Try.prog (ann 11 [(n_in,s_in)]) CCA (AI CCA) (xP1 g) (AD []) (.bool (riP g)) [] [] []
abbrev qS:=Pt.st
abbrev Vy:=Pt.fl
attribute [go_sem] qS Vy
theorem CNZ(g:Pt):(CJV g)=(WZ (riP g) (Hs (qS g) 2000) (Hs (Vy g) 200000)):=by kernel_rfl
def CAI:=pD dP1 λg=>.bool (riP g)
theorem CNN:AJ Try.prog BKI CAI:=UX xP1 hP1 λg _=>Mn (A:=ann 11 [(n_in,s_in)]) (ren:=[]) (fz:=[]) CQC (by kernel_rfl) (AC uN AE) (by
 show CJV g;rw[CNZ]<;> delta JT qD XL qS Vy FU WZ Hs;unfold riP;cases QY g.st 0 2000<;>simp)
def CMI(g:Ln):Prop:=BQ Try.prog (ann 29 [(BKI,CAI)]) BZR (AI BZR) (xL1 g) (AD []) (.bool (Va g)) [] [] []
abbrev hd17:=Pt.mk
abbrev OV:=Ln.a0
abbrev LY:=Ln.a1
abbrev LW:=Ln.b0
abbrev MN:=Ln.b1
abbrev GD:=λ(x0 x1:Int)=>decide (x0<x1)
attribute [go_sem] hd17 OV LY LW MN GD
theorem CQQ(g:Ln):(CMI g)=(WZ (Va g) (M7 (riP (hd17 (OV g) (LY g))) (riP (hd17 (LW g) (MN g))) (GD (OV g) (LW g))) (F3 (LY g) (MN g))):=by kernel_rfl
def BPB:=pD dL1 λg=>.bool (Va g)
theorem AOC:AJ Try.prog BCO BPB:=UX xL1 hL1 λg _=>Mn (A:=ann 29 [(BKI,CAI)]) (ren:=[]) (fz:=[]) CQP (by kernel_rfl) (AC CNN AE) (by
 show CMI g;rw[CQQ]<;> delta JT qD F3 XL hd17 OV LY LW MN GD FU M7 WZ;unfold Va;cases riP ⟨g.a0,g.a1⟩<;>cases riP ⟨g.b0,g.b1⟩<;>by_cases h:g.a0<g.b0<;>simp[h])
def BUZ(x:Int):Prop:=BQ Try.prog (ann 6 []) BJH (AI BJH) (xI1 x) (AD []) (.bool false) [] [] []
abbrev WI:=@bne Int (@instBEqOfDecidableEq Int Int.instDecidableEq)
abbrev Xo a:=WI a a
attribute [go_sem] WI Xo
theorem CEV(x:Int):(BUZ x)=(JT XL (Xo x)):=by kernel_rfl
def W5:=pD dI1 λ_=>.bool false
theorem BKU:AJ Try.prog AEY W5:=UX xI1 hI1 λg _=>Mn (A:=ann 6 []) (ren:=[]) (fz:=[]) CFU (by kernel_rfl) AE (by
 show BUZ g;rw[CEV]<;> delta JT XL WI Xo;simp)
def CAQ(x:Int):Prop:=BQ Try.prog (ann 6 []) BIS (AI BIS) (xI1 x) (AD []) (.bool false) [] [] []
theorem CDS(x:Int):(CAQ x)=(JT XL (Xo x)):=by kernel_rfl
theorem CFE:AJ Try.prog BHQ W5:=UX xI1 hI1 λg _=>Mn (A:=ann 6 []) (ren:=[]) (fz:=[]) CIL (by kernel_rfl) AE (by
 show CAQ g;rw[CDS]<;> delta JT XL WI Xo;simp)
def BNK(x:I2):Prop:=BQ Try.prog (ann 17 [(AEY,W5)]) AVL (AI AVL) (xI2 x) (AD []) (.bool (decide (x.a<x.b))) [] [] []
abbrev Gg:=I2.a
abbrev Rn:=I2.b
abbrev JG:=true
abbrev MS a b:=qD a JG b
abbrev ARD a b:=qD a b a
attribute [go_sem] Gg Rn JG MS ARD
theorem CAF(x:I2):(BNK x)=(JT (GD (Gg x) (Rn x)) (MS (ARD XL (not XL)) (GD (Gg x) (Rn x)))):=by kernel_rfl
def BOF:=pD dI2 λx=>.bool (decide (x.a<x.b))
theorem BVV:AJ Try.prog AZU BOF:=UX xI2 hI2 λg _=>Mn (A:=ann 17 [(AEY,W5)]) (ren:=[]) (fz:=[]) CCE (by kernel_rfl) (AC BKU AE) (by
 show BNK g;rw[CAF]<;> delta JT qD XL GD Gg Rn JG ARD MS;try simp)
def Oz(a b:Int):Int:=bif decide (a<b) then -1 else bif decide (a>b) then 1 else 0
def BZM(x:I2):Prop:=BQ Try.prog (ann 20 [(AEY,W5)]) BIV (AI BIV) (xI2 x) (AD []) (.int (Oz x.a x.b)) [] [] []
abbrev CS:=@cond Prop
abbrev AO:=@Eq Int
abbrev Mo:=Oz
abbrev KO:=λ(x0 x1:Int)=>decide (x0>x1)
abbrev YR a b c d:=CS a (AO b c) d
abbrev CP a:=AO a 0
attribute [go_sem] CS AO Mo KO YR CP
theorem CFD(x:I2):(BZM x)=(YR (GD (Gg x) (Rn x)) (Mo (Gg x) (Rn x)) (-1) (YR (KO (Gg x) (Rn x)) (Mo (Gg x) (Rn x)) 1 (CP (Mo (Gg x) (Rn x))))):=by kernel_rfl
def G6:=pD dI2 λx=>.int (Oz x.a x.b)
theorem ALH:AJ Try.prog sV G6:=UX xI2 hI2 λg _=>Mn (A:=ann 20 [(AEY,W5)]) (ren:=[]) (fz:=[]) CFC (by kernel_rfl) (AC BKU AE) (by
 show BZM g;rw[CFD]<;> delta GD Gg Rn CS AO Mo KO CP YR;unfold Oz;by_cases h:g.a<g.b<;>by_cases h2:g.b<g.a<;>simp[h,h2])
structure IL where
 a:Int
 l:List Int
def grM(x:IL):Int:=x.l.foldl qQ x.a
structure NI where
 k:Nat
 m:Int
 deriving Inhabited
def C_gr:Ctr:={ α:=IL,xs:=λx=>[.int x.a,.d (CZ x.l)],L:=λ_=>[],val:=λx=>.int (grM x),keep:=λ_=>[],pre:=λx=>[decide (x.l.length<4611686018427387904)=true] }
def d_gr:List AVal->Heap->Option (IL×List (Nat×Nat)×List Nat)
 |[.d a,y],H=>match tT y H with
  |some (l,f)=>some (⟨KT a,l⟩,[],f)
  |none=>none
 |_,_=>none
def A_gr(x:IL):Ann:={ ann 18 [] with loops:=λid=>if id=2 then some [{ α:=NI,dflt:=default,T:=λs=>⟨[(0,.int s.m),(7,.d (CZ x.l)),(8,.int x.l.length),(9,.int s.k)],[]⟩,inv:=λs=>s.k<=x.l.length/\s.m=(x.l.take s.k).foldl qQ x.a,meas:=λs=>x.l.length-s.k }] else none }
def V_gr(x:IL):Prop:=BQ Try.prog (A_gr x) N8 (AI N8) (C_gr.xs x) (AD []) (C_gr.val x) [] [] []
abbrev hd33:=@Exists NI
abbrev yI:=NI.m
abbrev AR:=@Eq Nat
abbrev CG:=@List.length Int
abbrev qO:=IL.l
abbrev AK:=λ(f:Nat->Prop)=>∀(x:Nat),f x
abbrev BV:=λ(p q:Prop)=>p->q
abbrev BZ:=@LT.lt Nat instLTNat
abbrev CM:=@gD Int Int.instInhabited
abbrev AQ:=@Nat.cast Int instNatCastInt
abbrev Gt:=NI.k
abbrev BU:=@LE.le Nat instLENat
abbrev hd46:=@List.foldl Int Int
abbrev iL:=@List.take Int
abbrev hd49:=λ(f:NI->Prop)=>∀(x:NI),f x
abbrev DD:=@LE.le Int Int.instLEInt
abbrev ES:=@LT.lt Int Int.instLTInt
abbrev LX:=@HAdd.hAdd Int Int Int (@instHAdd Int Int.instAdd)
abbrev EF:=@HSub.hSub Nat Nat Nat (@instHSub Nat instSubNat)
abbrev CL a b c d:=CS a (And b c) d
abbrev FL a b c d e:=BV a (CL b c d e)
abbrev FD a b:=GD (AQ a) b
abbrev FH a b c d e f:=FL a (FD b c) d e f
abbrev AG a b c:=And a (And b c)
abbrev BW a b c d:=AG a b (BZ c d)
abbrev LN a b c d e:=BW a b (EF c d) e
abbrev LL a b c d e f:=LN a b c d (EF e f)
abbrev EV a b c d e:=LL a b c d c e
abbrev JF a b:=BU a (CG b)
abbrev AF a b c d e:=AG a b (AG c d e)
abbrev CQ a b:=AO (AQ a) b
abbrev DG a:=IntKind.wrap IntKind.i64 a
abbrev FF a b:=DG (LX a b)
abbrev DU a:=FF a 1
abbrev EA a b:=CQ a (DU b)
abbrev BS a b:=EA a (AQ b)
abbrev AM a:=AO a a
abbrev BE a:=AM (AQ a)
abbrev QV a:=BE (CG a)
abbrev AT a b c:=BV (BZ a b) c
abbrev DF a b c:=AT a (CG b) c
abbrev JD a b:=AM (CM a b)
abbrev PG a b:=DF a b (JD b a)
abbrev FC a:=AK (λi=>PG i a)
abbrev BL a:=AR a a
abbrev CX a:=BL (CG a)
abbrev BC a:=DD 0 a
abbrev ED a b:=And (BC a) b
abbrev HI a b:=ES a (AQ b)
abbrev DV a b:=ED a (HI a b)
abbrev KJ a b:=DV a (CG b)
abbrev IN a b:=KJ (AQ a) b
abbrev EK a:=AQ (CG a)
abbrev BD a:=CQ a 0
attribute [go_sem] hd33 yI AR CG qO AK BV BZ CM AQ Gt BU hd46 iL hd49 DD ES LX EF CL FL FD FH AG BW LN LL EV JF AF CQ DG FF DU EA BS AM BE QV AT DF JD PG FC BL CX BC ED HI DV KJ IN EK BD
theorem CUM(x:IL):(V_gr x)=(And (hd33 (λi=>AG (AF (AO (yI i) (IL.a x)) (CX (qO x)) (FC (qO x)) (QV (qO x)) (BD (Gt i))) (JF (Gt i) (qO x)) (AO (yI i) (hd46 qQ (IL.a x) (iL (Gt i) (qO x)))))) (hd49 (λi=>FH (And (JF (Gt i) (qO x)) (AO (yI i) (hd46 qQ (IL.a x) (iL (Gt i) (qO x))))) (Gt i) (EK (qO x)) (IN (Gt i) (qO x)) (hd33 (λj=>EV (AF (AO (yI j) (qQ (yI i) (CM (qO x) (Gt i)))) (CX (qO x)) (FC (qO x)) (QV (qO x)) (BS (Gt j) (Gt i))) (And (JF (Gt j) (qO x)) (AO (yI j) (hd46 qQ (IL.a x) (iL (Gt j) (qO x))))) (CG (qO x)) (Gt j) (Gt i))) (AO (grM x) (yI i))))):=by kernel_rfl
theorem ND{α:Type}[Inhabited α]{l:List α}{k:Nat}(h:k<l.length):l.take (k+1)=l.take k ++ [gD l k]:=by
 rw[List.take_add_one,List.getElem?_eq_getElem h];simp[gD,List.getD_eq_getElem?_getD,h]
theorem p_gr(x:IL)(h:x.l.length<4611686018427387904):V_gr x:=by
 rw[CUM]<;> delta GD CS AO hd33 yI AR CG qO AK BV BZ CM AQ Gt BU hd46 iL hd49 DD ES LX EF AG DG AF AT FF AM BL DF DU BC CQ BE ED BW HI CX JD CL EK EA DV PG FC FD LN LL KJ FL EV BS JF BD FH QV IN;try simp only[CC,eq_self,implies_true,forall_const]
 refine⟨⟨⟨0,x.a⟩,⟨rfl,rfl⟩,Nat.zero_le _,rfl⟩,λs hs=>⟨λhlt=>⟨by omega,⟨s.k+1,qQ s.m (gD x.l s.k)⟩,⟨rfl,(CN (by omega)).symm⟩,⟨⟨by show s.k+1<=_;omega,?_⟩,?_⟩⟩,λhge=>?_⟩⟩
 ·show qQ s.m (gD x.l s.k)=_
  rw[ND (by omega),List.foldl_append,hs.2];rfl
 ·show x.l.length-(s.k+1)<_;omega
 ·rw[hs.2];unfold grM;rw[List.take_of_length_le (by omega)]
theorem CSF:AJ Try.prog U3 (C_gr.spec d_gr):=VD C_gr A_gr [] [] BCT (λ_=>by kernel_rfl) (λ_=>AE) (λx h=>p_gr x (of_decide_eq_true h)) (λ_=>WK rfl rfl) _
def Vx(n d:Int):Rt:=⟨n.tdiv (Nat.gcd n.natAbs d.natAbs:Nat),d.tdiv (Nat.gcd n.natAbs d.natAbs:Nat)⟩
structure NN where
 a:Nat
 b:Nat
 deriving Inhabited
def BPT(x:I2):Ann:={ ann 26 [(U3,C_gr.spec d_gr)] with loops:=λid=>if id=2 then some [{ α:=NN,dflt:=default,T:=λs=>⟨[(0,.int x.a),(1,.int x.b),(4,.bptr 201 0),(5,.int s.a),(6,.int s.b)],[(201,.live (.box [.int 0,.int 0]))]⟩,inv:=λs=>Nat.gcd s.a s.b=Nat.gcd x.a.natAbs x.b.natAbs/\s.a<=2305843009213693952/\s.b<=2305843009213693952,meas:=λs=>s.b,first:=[(201,1000)] }] else none }
def BOI(x:I2):Prop:=BQ Try.prog (BPT x) AZN (AI AZN) (xI2 x) (AD []) (.d (eRt (Vx x.a x.b))) [] [] []
abbrev NK:=@MK Int
abbrev Ba:=@HSub.hSub Int Int Int (@instHSub Int Int.instSub)
abbrev UT:=@Exists NN
abbrev BK:=NN.a
abbrev DZ:=NN.b
abbrev UM:=Int.ofNat
abbrev hd65:=Int.natAbs
abbrev Iv:=λ(f:NN->Prop)=>∀(x:NN),f x
abbrev Sv:=False
abbrev WL:=Rt.n
abbrev O0:=Vx
abbrev WY:=Rt.d
abbrev DE a b c d:=AG (And a b) c d
abbrev Ft a b:=AO (WY a) b
abbrev Tv a b:=DG (Int.tdiv a b)
abbrev JB a:=AQ (BK a)
abbrev Ki a b:=AO (WL a) b
abbrev Dw a:=BV a Sv
abbrev Bg a:=(@Ne Int) a 0
abbrev Fj a b:=BU (DZ a) b
abbrev Ub a:=Fj a 2305843009213693952
abbrev To a:=BU (BK a) 2305843009213693952
abbrev Vd a b c d:=AR (Nat.gcd (BK a) (DZ b)) (Nat.gcd (hd65 (Gg c)) (hd65 (Rn d)))
abbrev Zu a b:=And (AM (Gg a)) b
abbrev cP a b c d:=AF a b c d d
abbrev RH a:=AM (UM a)
abbrev BY:=RH 0
abbrev HV a:=AQ (DZ a)
abbrev OG a b:=AO (HV a) b
abbrev aU a:=AM (Rn a)
abbrev FI a:=WI a 0
abbrev AN a b c d:=And a (AG b c d)
abbrev HA a b:=DG (Ba a b)
abbrev JM a:=JT a a
abbrev MC:=JM JG
abbrev GI a b c:=AO (CM a b) c
abbrev GC a b c d e:=DF a b (GI c d e)
abbrev Nb a b c d:=GC a b b c d
abbrev Db:=BU 1 1
abbrev GE a:=AR a 1
attribute [go_sem] NK Ba UT BK DZ UM hd65 Iv Sv WL O0 WY DE Ft Tv JB Ki Dw Bg Fj Ub To Vd Zu cP RH BY HV OG aU FI AN HA JM MC GI GC Nb Db GE
theorem BTG(x:I2):(BOI x)=(AG (AF (AM (Gg x)) (GE (CG (NK 1 (λi=>HA 0 (Gg x))))) Db (AK (λi=>Nb i (NK 1 (λj=>HA 0 (Gg x))) i (HA 0 (Gg x)))) MC) (UT (λi=>AN (Zu x (cP (aU x) (CQ (BK i) (grM (IL.mk (Gg x) (NK 1 (λj=>HA 0 (Gg x)))))) (OG i (Rn x)) BY)) (Vd i i x x) (To i) (Ub i))) (Iv (λi=>FL (AG (Vd i i x x) (To i) (Ub i)) (FI (HV i)) (Dw (CP (HV i))) (UT (λj=>BW (Zu x (cP (aU x) (CQ (BK j) (HV i)) (OG j (Int.tmod (JB i) (HV i))) BY)) (AG (Vd j j x x) (To j) (Ub j)) (DZ j) (DZ i))) (DE (Bg (JB i)) (Dw (BD (BK i))) (Ki (O0 (Gg x) (Rn x)) (Tv (Gg x) (JB i))) (Ft (O0 (Gg x) (Rn x)) (Tv (Rn x) (JB i))))))):=by kernel_rfl
def vK:=pD dI2 (λx=>.d (eRt (Vx x.a x.b))) (λx=>[0<x.b/\x.b<=2305843009213693952 /\ -2305843009213693952<=x.a/\x.a<=2305843009213693952])
theorem CHA{n:Int}(h1:-2305843009213693952<=n)(h2:n<=2305843009213693952):grM ⟨n,MK 1 λ_=>IntKind.i64.wrap (-n)⟩=n.natAbs:=by
 rw[JH (by omega) (by omega)]
 show qQ n (-n)=_
 unfold qQ;split<;>omega
theorem BSW:AJ Try.prog ALN vK:=UX xI2 hI2 λx h=>Mn (A:=BPT x) (ren:=[]) (fz:=[]) CBP (by kernel_rfl) (AC CSF AE) (by
 show BOI x;rw[BTG]<;> delta JT WI Gg Rn JG CS AO AR CG AK BV BZ CM AQ BU NK Ba UT BK DZ UM hd65 Iv Sv WL O0 WY AG DG AF AT AM JM cP HA DF HV CQ AN GI BW GC JB CL CP RH Nb FL OG BY BD GE Db DE FI Fj MC Tv Dw Ft Ub Bg To aU Vd Zu Ki;try simp only[CC,eq_self,implies_true,forall_const]
 obtain⟨h1,h2,h3,h4⟩:0<x.b/\x.b<=2305843009213693952 /\ -2305843009213693952<=x.a/\x.a<=2305843009213693952:=h
 refine⟨⟨by omega,λj hj=>pE _ _ _ hj⟩,⟨⟨x.a.natAbs,x.b.natAbs⟩,⟨(CHA h3 h4).symm,by show (x.b.natAbs:Int)=_;omega⟩,rfl,by show x.a.natAbs<=_;omega,by show x.b.natAbs<=_;omega⟩,λs hs=>⟨λhb=>?_,λhb=>?_⟩⟩
 ·have hb:s.b≠0:=by simpa using hb
  refine⟨by omega,⟨s.b,s.a % s.b⟩,⟨rfl,?_⟩,⟨?_,hs.2.2,?_⟩,Nat.mod_lt _ (by omega)⟩
  ·exact (Int.ofNat_tmod s.a s.b)
  ·show Nat.gcd s.b (s.a % s.b)=_
   rw[<-hs.1,Nat.gcd_comm s.b,<-Nat.gcd_rec,Nat.gcd_comm]
  ·exact Nat.le_trans (Nat.le_of_lt (Nat.mod_lt _ (by omega))) hs.2.2
 ·have hb:s.b=0:=by simpa using hb
  have hg:s.a=Nat.gcd x.a.natAbs x.b.natAbs:=by rw[<-hs.1,hb,Nat.gcd_zero_right]
  have hp:0<Nat.gcd x.a.natAbs x.b.natAbs:=Nat.gcd_pos_of_pos_right _ (by omega)
  have ha:∀z:Int,(z.tdiv (s.a:Int)).natAbs<=z.natAbs:=λz=>by rw[Int.natAbs_tdiv];exact Nat.div_le_self _ _
  have e1:=ha x.a
  have e2:=ha x.b
  refine⟨by omega,?_,?_⟩
  ·rw[JH (by omega) (by omega)];unfold Vx;rw[<-hg]
  ·rw[JH (by omega) (by omega)];unfold Vx;rw[<-hg])
theorem BJJ{n d:Int}(h:0<d):0<(Vx n d).d/\(Vx n d).d<=d:=by
 have hd:((Nat.gcd n.natAbs d.natAbs:Nat):Int)∣d:=Int.ofNat_dvd_left.2 (Nat.gcd_dvd_right _ _)
 have hp:0<Nat.gcd n.natAbs d.natAbs:=Nat.gcd_pos_of_pos_right _ (by omega)
 obtain⟨c,hc⟩:=hd
 have hc0:0<c:=by
  rcases Int.lt_or_le 0 c with h1 | h1
  ·exact h1
  ·have:=Int.mul_nonneg (show 0<=((Nat.gcd n.natAbs d.natAbs:Nat):Int) by omega) (show 0 <= -c by omega)
   rw[Int.mul_neg,<-hc] at this;omega
 have e:(Vx n d).d=c:=by
  show d.tdiv _=c
  generalize Nat.gcd n.natAbs d.natAbs=q at *
  rw[hc,Int.mul_tdiv_cancel_left _ (by omega)]
 rw[e]
 refine⟨hc0,?_⟩
 have:=Int.mul_le_mul_of_nonneg_right (show (1:Int)<=((Nat.gcd n.natAbs d.natAbs:Nat):Int) by omega) (show 0<=c by omega)
 rw[<-hc] at this;omega
theorem CQS{n d:Int}:(Vx n d).n.natAbs<=n.natAbs:=by
 show (n.tdiv _).natAbs<=_
 rw[Int.natAbs_tdiv];exact Nat.div_le_self _ _
theorem AMQ{n d:Int}(h:0<d):(Vx n d).n*d=n*(Vx n d).d:=by
 have hd:((Nat.gcd n.natAbs d.natAbs:Nat):Int)∣d:=Int.ofNat_dvd_left.2 (Nat.gcd_dvd_right _ _)
 have hn:((Nat.gcd n.natAbs d.natAbs:Nat):Int)∣n:=Int.ofNat_dvd_left.2 (Nat.gcd_dvd_left _ _)
 have hp:0<Nat.gcd n.natAbs d.natAbs:=Nat.gcd_pos_of_pos_right _ (by omega)
 show n.tdiv _*d=n*d.tdiv _
 generalize Nat.gcd n.natAbs d.natAbs=q at *
 obtain⟨c,rfl⟩:=hd
 obtain⟨e,rfl⟩:=hn
 rw[Int.mul_tdiv_cancel_left _ (by omega),Int.mul_tdiv_cancel_left _ (by omega)]
 rw[Int.mul_comm (q:Int) e,Int.mul_assoc]
def ATL(x:Bnd):Prop:=BQ Try.prog (ann 16 [(sV,G6)]) AEE (AI AEE) (xR2 x) (AD []) (.int (Oz (wr (x.lo.n*x.hi.d)) (wr (x.hi.n*x.lo.d)))) [] [] []
abbrev mT:=@HMul.hMul Int Int Int (@instHMul Int Int.instMul)
abbrev iR:=Bnd.lo
abbrev gU:=Bnd.hi
abbrev QS a b:=DG (mT a b)
abbrev JI a:=WY (iR a)
abbrev JP a:=WL (gU a)
abbrev OX a:=WY (gU a)
abbrev OS a:=WL (iR a)
abbrev Fq a b:=wr (mT a b)
attribute [go_sem] mT iR gU QS JI JP OX OS Fq
theorem BJM(x:Bnd):(ATL x)=(AO (Mo (Fq (OS x) (OX x)) (Fq (JP x) (JI x))) (Mo (QS (OS x) (OX x)) (QS (JP x) (JI x)))):=by kernel_rfl
def ADY:=pD dR2 λx=>.int (Oz (wr (x.lo.n*x.hi.d)) (wr (x.hi.n*x.lo.d)))
theorem pO:AJ Try.prog xU ADY:=UX xR2 hR2 λg _=>Mn (A:=ann 16 [(sV,G6)]) (ren:=[]) (fz:=[]) BHX (by kernel_rfl) (AC ALH AE) (by
 show ATL g;rw[BJM]<;> delta AO Mo WL WY mT iR gU DG OX OS QS JI JP Fq;try rfl)
def Wc(x:Ln)(s:Int):Rt:=Vx (x.a1*(x.b0-x.a0)+(x.b1-x.a1)*(s-x.a0)) (x.b0-x.a0)
def PJ(x:Ln):Prop:=0<=x.a0/\x.a0<x.b0/\x.b0<=2000/\0<=x.a1/\x.a1<=x.b1/\x.b1<=200000
def CLQ(a:LnI):Prop:=BQ Try.prog (ann 34 [(ALN,vK)]) BYC (AI BYC) (xLI a) (AD []) (.d (eRt (Wc a.x a.s))) [] [] []
abbrev yA:=LnI.x
abbrev oB:=LnI.s
abbrev uJ:=Wc
abbrev EI a b c d e f:=AG (AN a b c d) e f
abbrev dK a:=OV (yA a)
abbrev AMH a b:=HA a (dK b)
abbrev Ux a:=LW (yA a)
abbrev Jj a b:=AMH (Ux a) b
abbrev qJ a b:=FF a (DG b)
abbrev oF a b c:=qJ a (mT b c)
abbrev XE a b c d:=oF (QS a b) c d
abbrev aY a b:=AMH (oB a) b
abbrev ZF a:=LY (yA a)
abbrev Ws a:=MN (yA a)
abbrev Um a b:=uJ (yA a) (oB b)
attribute [go_sem] yA oB uJ EI dK AMH Ux Jj qJ oF XE aY ZF Ws Um
theorem CNF(a:LnI):(CLQ a)=(EI (ES 0 (Jj a a)) (DD (Jj a a) 2305843009213693952) (DD (-2305843009213693952) (XE (ZF a) (Jj a a) (HA (Ws a) (ZF a)) (aY a a))) (DD (XE (ZF a) (Jj a a) (HA (Ws a) (ZF a)) (aY a a)) 2305843009213693952) (Ki (Um a a) (WL (O0 (XE (ZF a) (Jj a a) (HA (Ws a) (ZF a)) (aY a a)) (Jj a a)))) (Ft (Um a a) (WY (O0 (XE (ZF a) (Jj a a) (HA (Ws a) (ZF a)) (aY a a)) (Jj a a))))):=by kernel_rfl
def ART:=pD dLI (λa=>.d (eRt (Wc a.x a.s))) (λa=>[PJ a.x,0<=a.s/\a.s<=2000])
theorem CFS{x:Ln}{t:Int}(h:PJ x)(h2:0<=t/\t<=2000):(0<=x.a1*(x.b0-x.a0)/\x.a1*(x.b0-x.a0)<=400000000) /\ -400000000<=(x.b1-x.a1)*(t-x.a0)/\(x.b1-x.a1)*(t-x.a0)<=400000000:=by
 obtain⟨h3,h4,h5,h6,h7,h8⟩:=h
 exact⟨mulb (A:=200000) (B:=2000) (by omega) (by omega) (by omega) (by omega),CUI (A:=200000) (B:=2000) (by omega) (by omega) (by omega) (by omega)⟩
theorem CBQ:AJ Try.prog ATU ART:=UX xLI hLI λa h=>Mn (A:=ann 34 [(ALN,vK)]) (ren:=[]) (fz:=[]) COU (by kernel_rfl) (AC BSW AE) (by
 show CLQ a;rw[CNF]<;> delta OV LY LW MN AO DD ES LX Ba WL O0 WY mT yA oB uJ AG DG FF HA qJ AN QS dK EI Ux AMH oF XE ZF Jj Ft Ws aY Um Ki;try simp only[CC,eq_self,implies_true,forall_const]
 have hb:=CFS h.1 h.2
 obtain⟨⟨h3,h4,h5,h6,h7,h8⟩,h9,h10⟩:=h
 rw[JH (n:=a.x.b0-a.x.a0) (by omega) (by omega),JH (n:=a.x.b1-a.x.a1) (by omega) (by omega),JH (n:=a.s-a.x.a0) (by omega) (by omega),JH (n:=a.x.a1*(a.x.b0-a.x.a0)) (by omega) (by omega),JH (n:=(a.x.b1-a.x.a1)*(a.s-a.x.a0)) (by omega) (by omega),JH (n:=a.x.a1*(a.x.b0-a.x.a0)+(a.x.b1-a.x.a1)*(a.s-a.x.a0)) (by omega) (by omega)]
 exact⟨⟨by omega,by omega,by omega,by omega⟩,rfl,rfl⟩)
theorem AWO{x:Ln}{t:Int}(h:PJ x):0<(Wc x t).d/\(Wc x t).d<=2000:=by
 have:=BJJ (n:=x.a1*(x.b0-x.a0)+(x.b1-x.a1)*(t-x.a0)) (d:=x.b0-x.a0) (by have:=h.2.1;omega)
 refine⟨this.1,?_⟩
 have h1:=h.1
 have h3:=h.2.2.1
 have:=this.2
 show (Vx _ _).d<=_
 omega
def APS(r:Rt):Rt:=if r.n<0 then⟨0,1⟩ else if 200000*r.d<r.n then⟨200000,1⟩ else r
def AUO(r:Rt):Prop:=BQ Try.prog (ann 17 []) AGP (AI AGP) (xR1 r) (AD []) (.d (eRt (APS r))) [] [] []
abbrev hd81:=APS
abbrev Ld a b c:=And (AO a b) c
abbrev XG a:=GD a 0
attribute [go_sem] hd81 Ld XG
theorem BGF(r:Rt):(AUO r)=(CL (XG (WL r)) (CP (WL (hd81 r))) (Ft (hd81 r) 1) (CL (KO (WL r) (QS 200000 (WY r))) (Ki (hd81 r) 200000) (Ft (hd81 r) 1) (Ld (WL (hd81 r)) (WL r) (Ft (hd81 r) (WY r))))):=by kernel_rfl
def AGH:=pD dR1 (λr=>.d (eRt (APS r))) (λr=>[0<r.d/\r.d<=4000000])
theorem BJA:AJ Try.prog vW AGH:=UX xR1 hR1 λr h=>Mn (A:=ann 17 []) (ren:=[]) (fz:=[]) BGH (by kernel_rfl) AE (by
 show AUO r;rw[BGF]<;> delta GD CS AO KO WL WY mT hd81 DG CL CP QS Ld XG Ft Ki;try simp only[CC,eq_self,implies_true,forall_const]
 obtain⟨h1,h2⟩:0<r.d/\r.d<=4000000:=h
 rw[JH (by omega) (by omega)]
 unfold APS
 refine⟨λh3=>by simp[h3],λh3=>⟨λh4=>?_,λh4=>?_⟩⟩
 ·rw[if_neg h3,if_pos (by omega)];exact⟨rfl,rfl⟩
 ·rw[if_neg h3,if_neg (by omega)];exact⟨rfl,rfl⟩)
def MF(x:Ln)(s:Int):Rt:=APS (Wc x s)
def BOG(a:LnI):Prop:=BQ Try.prog (ann 9 [(ATU,ART),(vW,AGH)]) AZV (AI AZV) (xLI a) (AD []) (.d (eRt (MF a.x a.s))) [] [] []
abbrev GU a:=DD a 2000
abbrev MI a:=DD a 200000
abbrev HZ a b c d:=AF a (GU b) (BC c) (DD c d) (MI d)
abbrev Fz a b c d:=HZ (ES a b) b c (MN d)
attribute [go_sem] GU MI HZ Fz
theorem BXA(a:LnI):(BOG a)=(EI (ED (dK a) (Fz (dK a) (Ux a) (ZF a) (yA a))) (ED (oB a) (GU (oB a))) (ES 0 (WY (Um a a))) (DD (WY (Um a a)) 4000000) (Ki (MF (yA a) (oB a)) (WL (hd81 (Um a a)))) (Ft (MF (yA a) (oB a)) (WY (hd81 (Um a a))))):=by kernel_rfl
def AXD:=pD dLI (λa=>.d (eRt (MF a.x a.s))) (λa=>[PJ a.x,0<=a.s/\a.s<=2000])
theorem BSX:AJ Try.prog ALU AXD:=UX xLI hLI λa h=>Mn (A:=ann 9 [(ATU,ART),(vW,AGH)]) (ren:=[]) (fz:=[]) BYI (by kernel_rfl) (AC CBQ (AC BJA AE)) (by
 show BOG a;rw[BXA]<;> delta OV LY LW MN AO DD ES WL WY yA oB uJ hd81 AG AF BC AN ED GU MI HZ dK EI Ux ZF Fz Ft Um Ki;try simp only[CC,eq_self,implies_true,forall_const]
 have:=AWO (t:=a.s) h.1
 exact⟨⟨h.1,h.2,this.1,by omega⟩,rfl,rfl⟩)
def BT(p:Pt):Ln:=if p.st=2000 then⟨p.st-1,p.fl,p.st,p.fl⟩ else⟨p.st,p.fl,p.st+1,p.fl⟩
def BMG(p:Pt):Prop:=BQ Try.prog (ann 22 []) BAU (AI BAU) (xP1 p) (AD []) (.d (eLn (BT p))) [] [] []
abbrev OL:=@BEq.beq Int (@instBEqOfDecidableEq Int Int.instDecidableEq)
abbrev CA a b c d:=AG (AO a b) c d
abbrev DX a b c d e:=CA a b (AO c d) e
abbrev CR a b c d e f:=DX a b c d (AO e f)
abbrev Fm a b c d:=CR (LY a) b (LW a) c (MN a) d
abbrev UU a b:=AO (OV a) b
abbrev JZ a:=HA a 1
attribute [go_sem] OL CA DX CR Fm UU JZ
theorem CCK(p:Pt):(BMG p)=(CL (OL (qS p) 2000) (UU (BT p) (JZ (qS p))) (Fm (BT p) (Vy p) (qS p) (Vy p)) (And (UU (BT p) (qS p)) (Fm (BT p) (Vy p) (DU (qS p)) (Vy p)))):=by kernel_rfl
def wZ:=pD dP1 (λp=>.d (eLn (BT p))) (λp=>[0<=p.st/\p.st<=2000])
theorem Wv:AJ Try.prog kS wZ:=UX xP1 hP1 λp h=>Mn (A:=ann 22 []) (ren:=[]) (fz:=[]) CDG (by kernel_rfl) AE (by
 show BMG p;rw[CCK]<;> delta qS Vy OV LY LW MN CS AO LX Ba OL AG DG FF CA HA DX DU CR JZ UU CL Fm
 obtain⟨h1,h2⟩:0<=p.st/\p.st<=2000:=h
 rw[JH (by omega) (by omega),JH (by omega) (by omega),BLV]
 unfold BT
 by_cases h:p.st=2000<;>simp[h])
def LB(x:Ln)(g:Gau):Bool:=decide (g.lo*(Wc x g.st).d<=(Wc x g.st).n)&&decide ((Wc x g.st).n<=g.hi*(Wc x g.st).d)
def RK(g:Gau):Prop:=0<=g.st/\g.st<=2000/\0<=g.lo/\g.lo<=g.hi/\g.hi<=200000
def BCZ(a:LnG):Prop:=BQ Try.prog (ann 30 [(ATU,ART)]) AOZ (AI AOZ) (xLG a) (AD []) (.bool (LB a.x a.g)) [] [] []
abbrev hd85:=LnG.x
abbrev hd86:=LnG.g
abbrev SD a:=BC (EE a)
abbrev Ii a b c d:=ED (OV a) (Fz (OV b) c d b)
abbrev ZN a:=Ii a a (LW a) (LY a)
attribute [go_sem] hd85 hd86 SD Ii ZN
theorem BSH(a:LnG):(BCZ a)=(And (AG (ZN (hd85 a)) (SD (hd86 a)) (GU (EE (hd86 a)))) (WZ (LB (hd85 a) (hd86 a)) (hd6 (WL (uJ (hd85 a) (EE (hd86 a)))) (QS (EC (hd86 a)) (WY (uJ (hd85 a) (EE (hd86 a)))))) (F3 (WL (uJ (hd85 a) (EE (hd86 a)))) (QS (DP (hd86 a)) (WY (uJ (hd85 a) (EE (hd86 a)))))))):=by kernel_rfl
def BDK:=pD dLG (λa=>.bool (LB a.x a.g)) (λa=>[PJ a.x,RK a.g])
theorem BQB:AJ Try.prog ACE BDK:=UX xLG hLG λa h=>Mn (A:=ann 30 [(ATU,ART)]) (ren:=[]) (fz:=[]) BRR (by kernel_rfl) (AC CBQ AE) (by
 show BCZ a;rw[BSH]<;> delta JT qD hd6 F3 XL EE EC DP OV LY LW MN DD ES WL WY mT uJ hd85 hd86 AG DG AF BC ED GU FU MI SD QS HZ Fz Ii WZ ZN;try simp only[CC,eq_self,implies_true,forall_const]
 obtain⟨h1,h2,h3,h4,h5,h6⟩:PJ a.x/\RK a.g:=h
 have hd:=AWO (t:=a.g.st) h1
 have b1:=mulb (A:=200000) (B:=2000) h4 (by omega) (show 0<=(Wc a.x a.g.st).d by omega) hd.2
 have b2:=mulb (A:=200000) (B:=2000) (show 0<=a.g.hi by omega) (by omega) (show 0<=(Wc a.x a.g.st).d by omega) hd.2
 rw[JH (by omega) (by omega),JH (by omega) (by omega)]
 refine⟨⟨h1,h2,h3⟩,?_⟩
 unfold LB
 cases decide (a.g.lo*(Wc a.x a.g.st).d<=(Wc a.x a.g.st).n)<;>simp_all)
end Go.Bal
