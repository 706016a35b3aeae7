/- Package rating: numbers, lines, fractions. -/
import Derived.Test.YtceloknnpdonhaaGreatChT8
set_option linter.unusedVariables false
set_option linter.unusedSimpArgs false
namespace Go.Bal
open Go Go.Sym Go.Proofs
def wr(n:Int):Int:=IntKind.i64.wrap n
def Sx(a b c:Int):Bool:=decide (b<=a)&&decide (a<=c)
def riG(g:Gau):Bool:=Sx g.st 0 2000&&Sx g.lo 0 g.hi&&Sx g.hi 0 200000
def riP(p:Pt):Bool:=Sx p.st 0 2000&&Sx p.fl 0 200000
def eM(x:Ln):Bool:=riP ⟨x.a0,x.a1⟩&&riP ⟨x.b0,x.b1⟩&&decide (x.a0<x.b0)&&decide (x.a1<=x.b1)
def V_in(x:I3):Prop:=BG Try.prog (ann 15 []) F_in (AL F_in) (xI3 x) (AF []) (.bool (Sx x.a x.b x.c)) [] [] []
theorem DYK(x:I3):(V_in x)=(TU (Sx (I3.a x) (I3.b x) (I3.c x)) (hd6 (I3.a x) (I3.b x)) (hd7 (I3.a x) (I3.c x))):=by kernel_rfl
def s_in:=pD dI3 λx=>.bool (Sx x.a x.b x.c)
theorem X3:AM Try.prog n_in s_in:=Hv xI3 hI3 λx _=>Mj (A:=ann 15 []) (ren:=[]) (fz:=[]) DUV (by kernel_rfl) AG (by
 show V_in x;rw[DYK]<;> delta JB hd5 hd6 hd7 Oz HJ TU;unfold Sx;by_cases h:x.b<=x.a<;>simp[h])
def DLU(g:Gau):Prop:=BG Try.prog (ann 21 [(n_in,s_in)]) DEA (AL DEA) (xG1 g) (AF []) (.bool (riG g)) [] [] []
abbrev EY:=Gau.st
abbrev GW:=Gau.hi
abbrev RD a b:=Sx a 0 b
attribute [go_sem] EY GW RD
theorem DQN(g:Gau):(DLU g)=(TU (riG g) (HJ (RD (EY g) 2000) (RD (Gau.lo g) (GW g))) (RD (GW g) 200000)):=by kernel_rfl
def DMI:=pD dG1 λg=>.bool (riG g)
theorem DSZ:AM Try.prog CNE DMI:=Hv xG1 hG1 λg _=>Mj (A:=ann 21 [(n_in,s_in)]) (ren:=[]) (fz:=[]) DRN (by kernel_rfl) (AB X3 AG) (by
 show DLU g;rw[DQN]<;> delta JB hd5 Oz EY GW HJ RD TU;unfold riG;cases Sx g.st 0 2000<;>cases Sx g.lo 0 g.hi<;>simp)
def DMA(g:Pt):Prop:=BG Try.prog (ann 11 [(n_in,s_in)]) CWG (AL CWG) (xP1 g) (AF []) (.bool (riP g)) [] [] []
abbrev Yk:=Pt.st
abbrev fF:=Pt.fl
attribute [go_sem] Yk fF
theorem DPF(g:Pt):(DMA g)=(TU (riP g) (RD (Yk g) 2000) (RD (fF g) 200000)):=by kernel_rfl
def DCY:=pD dP1 λg=>.bool (riP g)
theorem DPS:AM Try.prog CPD DCY:=Hv xP1 hP1 λg _=>Mj (A:=ann 11 [(n_in,s_in)]) (ren:=[]) (fz:=[]) DSV (by kernel_rfl) (AB X3 AG) (by
 show DMA g;rw[DPF]<;> delta JB hd5 Oz Yk fF HJ RD TU;unfold riP;cases Sx g.st 0 2000<;>simp)
def DNV(g:Ln):Prop:=BG Try.prog (ann 29 [(CPD,DCY)]) DEY (AL DEY) (xL1 g) (AF []) (.bool (eM g)) [] [] []
abbrev X5:=Pt.mk
abbrev FC:=Ln.a0
abbrev GF:=Ln.a1
abbrev GD:=Ln.b0
abbrev HB:=Ln.b1
attribute [go_sem] X5 FC GF GD HB
theorem DSP(g:Ln):(DNV g)=(TU (eM g) (HJ (HJ (riP (X5 (FC g) (GF g))) (riP (X5 (GD g) (HB g)))) (JD (FC g) (GD g))) (hd7 (GF g) (HB g))):=by kernel_rfl
def CHA:=pD dL1 λg=>.bool (eM g)
theorem BKG:AM Try.prog BSW CHA:=Hv xL1 hL1 λg _=>Mj (A:=ann 29 [(CPD,DCY)]) (ren:=[]) (fz:=[]) DSE (by kernel_rfl) (AB DPS AG) (by
 show DNV g;rw[DSP]<;> delta JB hd5 hd7 Oz JD X5 FC GF GD HB HJ TU;unfold eM;cases riP ⟨g.a0,g.a1⟩<;>cases riP ⟨g.b0,g.b1⟩<;>by_cases h:g.a0<g.b0<;>simp[h])
def DDL(x:Int):Prop:=BG Try.prog (ann 6 []) CKO (AL CKO) (xI1 x) (AF []) (.bool false) [] [] []
theorem DGD(x:Int):(DDL x)=(JB Oz (Gi x x)):=by kernel_rfl
def ASW:=pD dI1 λ_=>.bool false
theorem CQJ:AM Try.prog BII ASW:=Hv xI1 hI1 λg _=>Mj (A:=ann 6 []) (ren:=[]) (fz:=[]) DIJ (by kernel_rfl) AG (by
 show DDL g;rw[DGD]<;> delta JB Oz Gi;simp)
def DDG(x:Int):Prop:=BG Try.prog (ann 6 []) CIP (AL CIP) (xI1 x) (AF []) (.bool false) [] [] []
theorem DKA(x:Int):(DDG x)=(JB Oz (Gi x x)):=by kernel_rfl
theorem DHP:AM Try.prog CJW ASW:=Hv xI1 hI1 λg _=>Mj (A:=ann 6 []) (ren:=[]) (fz:=[]) DKN (by kernel_rfl) AG (by
 show DDG g;rw[DKA]<;> delta JB Oz Gi;simp)
def CRF(x:I2):Prop:=BG Try.prog (ann 17 [(BII,ASW)]) BYV (AL BYV) (xI2 x) (AF []) (.bool (decide (x.a<x.b))) [] [] []
abbrev Cp:=I2.a
abbrev Mh:=I2.b
attribute [go_sem] Cp Mh
theorem CXA(x:I2):(CRF x)=(JB (JD (Cp x) (Mh x)) (OK (Hn Oz Oz) (JD (Cp x) (Mh x)))):=by kernel_rfl
def CNY:=pD dI2 λx=>.bool (decide (x.a<x.b))
theorem DDR:AM Try.prog CBR CNY:=Hv xI2 hI2 λg _=>Mj (A:=ann 17 [(BII,ASW)]) (ren:=[]) (fz:=[]) CYY (by kernel_rfl) (AB CQJ AG) (by
 show CRF g;rw[CXA]<;> delta JB hd5 Oz JD QJ Cp Mh HJ OK Hn;try simp)
def wB(a b:Int):Int:=bif decide (a<b) then -1 else bif decide (a>b) then 1 else 0
def CXH(x:I2):Prop:=BG Try.prog (ann 20 [(BII,ASW)]) CLD (AL CLD) (xI2 x) (AF []) (.int (wB x.a x.b)) [] [] []
abbrev Gm:=wB
attribute [go_sem] Gm
theorem DFY(x:I2):(CXH x)=(DV (JD (Cp x) (Mh x)) (AO (Gm (Cp x) (Mh x)) (-1)) (DV (Pp (Cp x) (Mh x)) (AO (Gm (Cp x) (Mh x)) 1) (BE (Gm (Cp x) (Mh x))))):=by kernel_rfl
def BKP:=pD dI2 λx=>.int (wB x.a x.b)
theorem BXK:AM Try.prog AQE BKP:=Hv xI2 hI2 λg _=>Mj (A:=ann 20 [(BII,ASW)]) (ren:=[]) (fz:=[]) DKC (by kernel_rfl) (AB CQJ AG) (by
 show CXH g;rw[DFY]<;> delta AO DV JD Pp Cp Mh Gm BE;unfold wB;by_cases h:g.a<g.b<;>by_cases h2:g.b<g.a<;>simp[h,h2])
structure IL where
 a:Int
 l:List Int
def grM(x:IL):Int:=x.l.foldl OL x.a
structure NI where
 k:Nat
 m:Int
 deriving Inhabited
def C_gr:Ctr:={ α:=IL,xs:=λx=>[.int x.a,.d (FE x.l)],L:=λ_=>[],val:=λx=>.int (grM x),keep:=λ_=>[],pre:=λx=>[decide (x.l.length<4611686018427387904)=true] }
def d_gr:List AVal->Heap->Option (IL×List (Nat×Nat)×List Nat)
 |[.d a,y],H=>match W2 y H with
  |some (l,f)=>some (⟨EO a,l⟩,[],f)
  |none=>none
 |_,_=>none
def A_gr(x:IL):Ann:={ ann 18 [] with loops:=λid=>if id=2 then some [{ α:=NI,dflt:=default,T:=λs=>⟨[(0,.int s.m),(7,.d (FE x.l)),(8,.int x.l.length),(9,.int s.k)],[]⟩,inv:=λs=>s.k<=x.l.length/\s.m=(x.l.take s.k).foldl OL x.a,meas:=λs=>x.l.length-s.k }] else none }
def V_gr(x:IL):Prop:=BG Try.prog (A_gr x) AUY (AL AUY) (C_gr.xs x) (AF []) (C_gr.val x) [] [] []
abbrev BPJ:=@Exists NI
abbrev jK:=NI.m
abbrev fD:=IL.l
abbrev Bw:=NI.k
abbrev CGB:=@List.foldl Int Int
abbrev yV:=@List.take Int
abbrev CEW:=λ(f:NI->Prop)=>∀(x:NI),f x
attribute [go_sem] BPJ jK fD Bw CGB yV CEW
theorem DYE(x:IL):(V_gr x)=(And (BPJ (λi=>AH (AJ (AO (jK i) (IL.a x)) (GU (fD x)) (GI (fD x)) (RL (fD x)) (BS (Bw i))) (JU (Bw i) (fD x)) (AO (jK i) (CGB zZ (IL.a x) (yV (Bw i) (fD x)))))) (CEW (λi=>NA (Bw i) (BN (fD x)) (AO (jK i) (CGB zZ (IL.a x) (yV (Bw i) (fD x)))) (ER (fD x)) (And (Nj (Bw i) (fD x)) (BPJ (λj=>RN (AJ (AO (jK j) (zZ (jK i) (BJ (fD x) (Bw i)))) (GU (fD x)) (GI (fD x)) (RL (fD x)) (AV (Bw j) (Bw i))) (Bw j) (BN (fD x)) (AO (jK j) (CGB zZ (IL.a x) (yV (Bw j) (fD x)))) (Bw i)))) (AO (grM x) (jK i))))):=by kernel_rfl
theorem WX{α:Type}[Inhabited α]{l:List α}{k:Nat}(h:k<l.length):l.take (k+1)=l.take k ++ [gD l k]:=by
 rw[List.take_add_one,List.getElem?_eq_getElem h];simp[gD,List.getD_eq_getElem?_getD,h]
theorem p_gr(x:IL)(h:x.l.length<4611686018427387904):V_gr x:=by
 rw[DYE]<;> delta NE AR AK BO CI AO AU EA DV JD DJ DX OP zZ IS BN BJ BPJ jK fD Bw CGB yV CEW AH AJ AZ EV AI BI DK ED BC EZ ER EU GY GU GV Gk CK CE Mm MW EC AV ES FF MC JO GI CX NT BS HR JU RL Bc NA Fe RN Nj;try simp only[CC,eq_self,implies_true,forall_const]
 refine⟨⟨⟨0,x.a⟩,⟨rfl,rfl⟩,Nat.zero_le _,rfl⟩,λs hs=>⟨λhlt=>⟨by omega,⟨s.k+1,OL s.m (gD x.l s.k)⟩,⟨rfl,(FN (by omega)).symm⟩,⟨⟨by show s.k+1<=_;omega,?_⟩,?_⟩⟩,λhge=>?_⟩⟩
 ·show OL s.m (gD x.l s.k)=_
  rw[WX (by omega),List.foldl_append,hs.2];rfl
 ·show x.l.length-(s.k+1)<_;omega
 ·rw[hs.2];unfold grM;rw[List.take_of_length_le (by omega)]
theorem DWJ:AM Try.prog AZI (C_gr.spec d_gr):=WY C_gr A_gr [] [] CFS (λ_=>by kernel_rfl) (λ_=>AG) (λx h=>p_gr x (of_decide_eq_true h)) (λ_=>YE rfl rfl) _
def wI(n d:Int):Rt:=⟨n.tdiv (Nat.gcd n.natAbs d.natAbs:Nat),d.tdiv (Nat.gcd n.natAbs d.natAbs:Nat)⟩
structure NN where
 a:Nat
 b:Nat
 deriving Inhabited
def CPJ(x:I2):Ann:={ ann 26 [(AZI,C_gr.spec d_gr)] with loops:=λid=>if id=2 then some [{ α:=NN,dflt:=default,T:=λs=>⟨[(0,.int x.a),(1,.int x.b),(4,.bptr 201 0),(5,.int s.a),(6,.int s.b)],[(201,.live (.box [.int 0,.int 0]))]⟩,inv:=λs=>Nat.gcd s.a s.b=Nat.gcd x.a.natAbs x.b.natAbs/\s.a<=2305843009213693952/\s.b<=2305843009213693952,meas:=λs=>s.b,first:=[(201,1000)] }] else none }
def CQG(x:I2):Prop:=BG Try.prog (CPJ x) BZO (AL BZO) (xI2 x) (AF []) (.d (eRt (wI x.a x.b))) [] [] []
abbrev lQ:=NN.a
abbrev jE:=NN.b
abbrev BLC:=Nat.gcd
abbrev AOT:=Int.natAbs
abbrev GE:=Rt.n
abbrev IG:=Rt.d
abbrev Sm a b:=AO (IG a) b
abbrev aE a b:=EV (Int.tdiv a b)
abbrev OB a b c:=IA a b b a c
abbrev mO a:=LD (BN a)
attribute [go_sem] lQ jE BLC AOT GE IG Sm aE OB mO
theorem CVQ(x:I2):(CQG x)=(AH (GP (Cp x) (mO (JN 1 (λi=>LI 0 (Cp x)))) Bo (AK (λi=>OB i (JN 1 (λj=>LI 0 (Cp x))) (LI 0 (Cp x)))) MK) ((@Exists NN) (λi=>AY (And (AI (Cp x)) (xW (AI (Mh x)) (GV (lQ i) (grM (IL.mk (Cp x) (JN 1 (λj=>LI 0 (Cp x)))))) (GV (jE i) (Mh x)) CL)) (AR (BLC (lQ i) (jE i)) (BLC (AOT (Cp x)) (AOT (Mh x)))) (EA (lQ i) 2305843009213693952) (EA (jE i) 2305843009213693952))) ((λ(f:NN->Prop)=>∀(x:NN),f x) (λi=>EC (QB (AR (BLC (lQ i) (jE i)) (BLC (AOT (Cp x)) (AOT (Mh x)))) (lQ i) 2305843009213693952 (EA (jE i) 2305843009213693952)) (PK (AU (jE i))) (And (Ow (BS (jE i))) ((@Exists NN) (λj=>CK (And (AI (Cp x)) (xW (AI (Mh x)) (CN (lQ j) (jE i)) (GV (jE j) (pW (AU (lQ i)) (AU (jE i)))) CL)) (QB (AR (BLC (lQ j) (jE j)) (BLC (AOT (Cp x)) (AOT (Mh x)))) (lQ j) 2305843009213693952 (EA (jE j) 2305843009213693952)) (jE j) (jE i)))) (AH (And (VD (AU (lQ i))) (Ow (BS (lQ i)))) (AO (GE (wI (Cp x) (Mh x))) (aE (Cp x) (AU (lQ i)))) (Sm (wI (Cp x) (Mh x)) (aE (Mh x) (AU (lQ i)))))))):=by kernel_rfl
def CBC:=pD dI2 (λx=>.d (eRt (wI x.a x.b))) (λx=>[0<x.b/\x.b<=2305843009213693952 /\ -2305843009213693952<=x.a/\x.a<=2305843009213693952])
theorem DJS{n:Int}(h1:-2305843009213693952<=n)(h2:n<=2305843009213693952):grM ⟨n,KA 1 λ_=>IntKind.i64.wrap (-n)⟩=n.natAbs:=by
 rw[JC (by omega) (by omega)]
 show OL n (-n)=_
 unfold OL;split<;>omega
theorem DEX:AM Try.prog BNX CBC:=Hv xI2 hI2 λx h=>Mj (A:=CPJ x) (ren:=[]) (fz:=[]) DEV (by kernel_rfl) (AB DWJ AG) (by
 show CQG x;rw[CVQ]<;> delta JB NE Kq AR AK BO CI AO AU UH EA DV QJ Gi PS BN BJ JN pW Cp Mh lQ jE BLC AOT GE IG AH AJ AZ EV AI FJ xW LI EZ HL AY GV IA CK OB EC FU CN GP Bo CL BS MK LD Ow PK QB VD aE mO Sm;try simp only[CC,eq_self,implies_true,forall_const]
 obtain⟨h1,h2,h3,h4⟩:0<x.b/\x.b<=2305843009213693952 /\ -2305843009213693952<=x.a/\x.a<=2305843009213693952:=h
 refine⟨⟨by omega,λj hj=>OW _ _ _ hj⟩,⟨⟨x.a.natAbs,x.b.natAbs⟩,⟨(DJS h3 h4).symm,by show (x.b.natAbs:Int)=_;omega⟩,rfl,by show x.a.natAbs<=_;omega,by show x.b.natAbs<=_;omega⟩,λs hs=>⟨λhb=>?_,λhb=>?_⟩⟩
 ·have hb:s.b≠0:=by simpa using hb
  refine⟨by omega,⟨s.b,s.a % s.b⟩,⟨rfl,?_⟩,⟨?_,hs.2.2,?_⟩,Nat.mod_lt _ (by omega)⟩
  ·exact (Int.ofNat_tmod s.a s.b)
  ·show Nat.gcd s.b (s.a % s.b)=_
   rw[<-hs.1,Nat.gcd_comm s.b,<-Nat.gcd_rec,Nat.gcd_comm]
  ·exact Nat.le_trans (Nat.le_of_lt (Nat.mod_lt _ (by omega))) hs.2.2
 ·have hb:s.b=0:=by simpa using hb
  have hg:s.a=Nat.gcd x.a.natAbs x.b.natAbs:=by rw[<-hs.1,hb,Nat.gcd_zero_right]
  have hp:0<Nat.gcd x.a.natAbs x.b.natAbs:=Nat.gcd_pos_of_pos_right _ (by omega)
  have ha:∀z:Int,(z.tdiv (s.a:Int)).natAbs<=z.natAbs:=λz=>by rw[Int.natAbs_tdiv];exact Nat.div_le_self _ _
  have e1:=ha x.a
  have e2:=ha x.b
  refine⟨by omega,?_,?_⟩
  ·rw[JC (by omega) (by omega)];unfold wI;rw[<-hg]
  ·rw[JC (by omega) (by omega)];unfold wI;rw[<-hg])
theorem CIM{n d:Int}(h:0<d):0<(wI n d).d/\(wI n d).d<=d:=by
 have hd:((Nat.gcd n.natAbs d.natAbs:Nat):Int)∣d:=Int.ofNat_dvd_left.2 (Nat.gcd_dvd_right _ _)
 have hp:0<Nat.gcd n.natAbs d.natAbs:=Nat.gcd_pos_of_pos_right _ (by omega)
 obtain⟨c,hc⟩:=hd
 have hc0:0<c:=by
  rcases Int.lt_or_le 0 c with h1 | h1
  ·exact h1
  ·have:=Int.mul_nonneg (show 0<=((Nat.gcd n.natAbs d.natAbs:Nat):Int) by omega) (show 0 <= -c by omega)
   rw[Int.mul_neg,<-hc] at this;omega
 have e:(wI n d).d=c:=by
  show d.tdiv _=c
  generalize Nat.gcd n.natAbs d.natAbs=q at *
  rw[hc,Int.mul_tdiv_cancel_left _ (by omega)]
 rw[e]
 refine⟨hc0,?_⟩
 have:=Int.mul_le_mul_of_nonneg_right (show (1:Int)<=((Nat.gcd n.natAbs d.natAbs:Nat):Int) by omega) (show 0<=c by omega)
 rw[<-hc] at this;omega
theorem BPQ{n d:Int}(h:0<d):(wI n d).n*d=n*(wI n d).d:=by
 have hd:((Nat.gcd n.natAbs d.natAbs:Nat):Int)∣d:=Int.ofNat_dvd_left.2 (Nat.gcd_dvd_right _ _)
 have hn:((Nat.gcd n.natAbs d.natAbs:Nat):Int)∣n:=Int.ofNat_dvd_left.2 (Nat.gcd_dvd_left _ _)
 have hp:0<Nat.gcd n.natAbs d.natAbs:=Nat.gcd_pos_of_pos_right _ (by omega)
 show n.tdiv _*d=n*d.tdiv _
 generalize Nat.gcd n.natAbs d.natAbs=q at *
 obtain⟨c,rfl⟩:=hd
 obtain⟨e,rfl⟩:=hn
 rw[Int.mul_tdiv_cancel_left _ (by omega),Int.mul_tdiv_cancel_left _ (by omega)]
 rw[Int.mul_comm (q:Int) e,Int.mul_assoc]
def BWX(x:Bnd):Prop:=BG Try.prog (ann 16 [(AQE,BKP)]) BER (AL BER) (xR2 x) (AF []) (.int (wB (wr (x.lo.n*x.hi.d)) (wr (x.hi.n*x.lo.d)))) [] [] []
abbrev ZX:=Bnd.lo
abbrev Aa:=Bnd.hi
abbrev IW a:=IG (ZX a)
abbrev IK a:=GE (Aa a)
abbrev IR a:=IG (Aa a)
abbrev IP a:=GE (ZX a)
abbrev Og a b:=wr (Hy a b)
attribute [go_sem] ZX Aa IW IK IR IP Og
theorem CKG(x:Bnd):(BWX x)=(AO (Gm (Og (IP x) (IR x)) (Og (IK x) (IW x))) (Gm (PW (IP x) (IR x)) (PW (IK x) (IW x)))):=by kernel_rfl
def BJK:=pD dR2 λx=>.int (wB (wr (x.lo.n*x.hi.d)) (wr (x.hi.n*x.lo.d)))
theorem D4:AM Try.prog ALU BJK:=Hv xR2 hR2 λg _=>Mj (A:=ann 16 [(AQE,BKP)]) (ren:=[]) (fz:=[]) CIO (by kernel_rfl) (AB BXK AG) (by
 show BWX g;rw[CKG]<;> delta NE AO Hy Gm GE IG ZX Aa EV PW IR IP IW IK Og;try rfl)
def hasM(x:Ln)(s:Int):Rt:=wI (x.a1*(x.b0-x.a0)+(x.b1-x.a1)*(s-x.a0)) (x.b0-x.a0)
def RF(x:Ln):Prop:=0<=x.a0/\x.a0<x.b0/\x.b0<=2000/\0<=x.a1/\x.a1<=x.b1/\x.b1<=200000
def DOA(a:LnI):Prop:=BG Try.prog (ann 34 [(BNX,CBC)]) DCJ (AL DCJ) (xLI a) (AF []) (.d (eRt (hasM a.x a.s))) [] [] []
abbrev Iy:=LnI.x
abbrev Lz:=LnI.s
abbrev sT:=hasM
abbrev BHX a b:=LI a (FC b)
abbrev uT a:=BHX (GD (Iy a)) (Iy a)
abbrev Qk a b c d:=cO a b (Hy (LI (HB c) a) (BHX d c))
abbrev BHZ a:=GF (Iy a)
attribute [go_sem] Iy Lz sT BHX uT Qk BHZ
theorem DRC(a:LnI):(DOA a)=(AH (AY (DX 0 (uT a)) (DJ (uT a) 2305843009213693952) (DJ (-2305843009213693952) (Qk (BHZ a) (uT a) (Iy a) (Lz a))) (DJ (Qk (BHZ a) (uT a) (Iy a) (Lz a)) 2305843009213693952)) (AO (GE (sT (Iy a) (Lz a))) (GE (wI (Qk (BHZ a) (uT a) (Iy a) (Lz a)) (uT a)))) (Sm (sT (Iy a) (Lz a)) (IG (wI (Qk (BHZ a) (uT a) (Iy a) (Lz a)) (uT a))))):=by kernel_rfl
def CEV:=pD dLI (λa=>.d (eRt (hasM a.x a.s))) (λa=>[RF a.x,0<=a.s/\a.s<=2000])
theorem DGY{x:Ln}{t:Int}(h:RF x)(h2:0<=t/\t<=2000):(0<=x.a1*(x.b0-x.a0)/\x.a1*(x.b0-x.a0)<=400000000) /\ -400000000<=(x.b1-x.a1)*(t-x.a0)/\(x.b1-x.a1)*(t-x.a0)<=400000000:=by
 obtain⟨h3,h4,h5,h6,h7,h8⟩:=h
 exact⟨mulb (A:=200000) (B:=2000) (by omega) (by omega) (by omega) (by omega),DVB (A:=200000) (B:=2000) (by omega) (by omega) (by omega) (by omega)⟩
theorem CVT:AM Try.prog BWR CEV:=Hv xLI hLI λa h=>Mj (A:=ann 34 [(BNX,CBC)]) (ren:=[]) (fz:=[]) DSI (by kernel_rfl) (AB DEX AG) (by
 show DOA a;rw[DRC]<;> delta NE Kq AO DJ DX OP Hy FC GF GD HB GE IG Iy Lz sT AH EV DK LI xR AY PW BHX cO uT BHZ Qk Sm;try simp only[CC,eq_self,implies_true,forall_const]
 have hb:=DGY h.1 h.2
 obtain⟨⟨h3,h4,h5,h6,h7,h8⟩,h9,h10⟩:=h
 rw[JC (n:=a.x.b0-a.x.a0) (by omega) (by omega),JC (n:=a.x.b1-a.x.a1) (by omega) (by omega),JC (n:=a.s-a.x.a0) (by omega) (by omega),JC (n:=a.x.a1*(a.x.b0-a.x.a0)) (by omega) (by omega),JC (n:=(a.x.b1-a.x.a1)*(a.s-a.x.a0)) (by omega) (by omega),JC (n:=a.x.a1*(a.x.b0-a.x.a0)+(a.x.b1-a.x.a1)*(a.s-a.x.a0)) (by omega) (by omega)]
 exact⟨⟨by omega,by omega,by omega,by omega⟩,rfl,rfl⟩)
theorem CLZ{x:Ln}{t:Int}(h:RF x):0<(hasM x t).d/\(hasM x t).d<=2000:=by
 have:=CIM (n:=x.a1*(x.b0-x.a0)+(x.b1-x.a1)*(t-x.a0)) (d:=x.b0-x.a0) (by have:=h.2.1;omega)
 refine⟨this.1,?_⟩
 have h1:=h.1
 have h3:=h.2.2.1
 have:=this.2
 show (wI _ _).d<=_
 omega
def BQE(r:Rt):Rt:=if r.n<0 then⟨0,1⟩ else if 200000*r.d<r.n then⟨200000,1⟩ else r
def BXF(r:Rt):Prop:=BG Try.prog (ann 17 []) BFH (AL BFH) (xR1 r) (AF []) (.d (eRt (BQE r))) [] [] []
abbrev AFV:=BQE
abbrev Ax a b c:=And (AO a b) c
abbrev Ga a:=JD a 0
attribute [go_sem] AFV Ax Ga
theorem CJB(r:Rt):(BXF r)=(Fw (Ga (GE r)) (BE (GE (AFV r))) (Sm (AFV r) 1) (DV (Pp (GE r) (PW 200000 (IG r))) (Ax (GE (AFV r)) 200000 (Sm (AFV r) 1)) (Ax (GE (AFV r)) (GE r) (Sm (AFV r) (IG r))))):=by kernel_rfl
def BFI:=pD dR1 (λr=>.d (eRt (BQE r))) (λr=>[0<r.d/\r.d<=4000000])
theorem CLC:AM Try.prog ANN BFI:=Hv xR1 hR1 λr h=>Mj (A:=ann 17 []) (ren:=[]) (fz:=[]) CJU (by kernel_rfl) AG (by
 show BXF r;rw[CJB]<;> delta NE AO DV JD Pp Hy GE IG AFV EV BE PW Ax Fw Ga Sm;try simp only[CC,eq_self,implies_true,forall_const]
 obtain⟨h1,h2⟩:0<r.d/\r.d<=4000000:=h
 rw[JC (by omega) (by omega)]
 unfold BQE
 refine⟨λh3=>by simp[h3],λh3=>⟨λh4=>?_,λh4=>?_⟩⟩
 ·rw[if_neg h3,if_pos (by omega)];exact⟨rfl,rfl⟩
 ·rw[if_neg h3,if_neg (by omega)];exact⟨rfl,rfl⟩)
def OT(x:Ln)(s:Int):Rt:=BQE (hasM x s)
def CNC(a:LnI):Prop:=BG Try.prog (ann 9 [(BWR,CEV),(ANN,BFI)]) BYL (AL BYL) (xLI a) (AF []) (.d (eRt (OT a.x a.s))) [] [] []
abbrev tU:=OT
abbrev HN a:=DJ a 2000
abbrev YB a b c d e f:=AJ a b c d (DJ e f)
abbrev QE a b c d:=YB a (HN b) (BC c) (DJ c d) d 200000
abbrev LJ a:=EU (FC a) (QE (DX (FC a) (GD a)) (GD a) (GF a) (HB a))
attribute [go_sem] tU HN YB QE LJ
theorem CZL(a:LnI):(CNC a)=(AH (AY (LJ (Iy a)) (EU (Lz a) (HN (Lz a))) (DX 0 (IG (sT (Iy a) (Lz a)))) (DJ (IG (sT (Iy a) (Lz a))) 4000000)) (AO (GE (tU (Iy a) (Lz a))) (GE (AFV (sT (Iy a) (Lz a))))) (Sm (tU (Iy a) (Lz a)) (IG (AFV (sT (Iy a) (Lz a)))))):=by kernel_rfl
def BNO:=pD dLI (λa=>.d (eRt (OT a.x a.s))) (λa=>[RF a.x,0<=a.s/\a.s<=2000])
theorem CHO:AM Try.prog BEE BNO:=Hv xLI hLI λa h=>Mj (A:=ann 9 [(BWR,CEV),(ANN,BFI)]) (ren:=[]) (fz:=[]) CVZ (by kernel_rfl) (AB CVT (AB CLC AG)) (by
 show CNC a;rw[CZL]<;> delta AO DJ DX FC GF GD HB GE IG Iy Lz sT AFV tU AH AJ BC EU YB AY HN QE LJ Sm;try simp only[CC,eq_self,implies_true,forall_const]
 have:=CLZ (t:=a.s) h.1
 exact⟨⟨h.1,h.2,this.1,by omega⟩,rfl,rfl⟩)
def CB(p:Pt):Ln:=if p.st=2000 then⟨p.st-1,p.fl,p.st,p.fl⟩ else⟨p.st,p.fl,p.st+1,p.fl⟩
def COP(p:Pt):Prop:=BG Try.prog (ann 22 []) CAR (AL CAR) (xP1 p) (AF []) (.d (eLn (CB p))) [] [] []
abbrev A1:=CB
abbrev HC a b c d e f:=ID a b (AO c d) e f
abbrev Ha a b c d e:=HC (GF a) b (GD c) d (HB c) e
attribute [go_sem] A1 HC Ha
theorem CZP(p:Pt):(COP p)=(DV (Cu (Yk p) 2000) (Ax (FC (A1 p)) (FA (Yk p)) (Ha (A1 p) (fF p) (A1 p) (Yk p) (fF p))) (Ax (FC (A1 p)) (Yk p) (Ha (A1 p) (fF p) (A1 p) (ED (Yk p)) (fF p)))):=by kernel_rfl
def ALX:=pD dP1 (λp=>.d (eLn (CB p))) (λp=>[0<=p.st/\p.st<=2000])
theorem lR:AM Try.prog C6 ALX:=Hv xP1 hP1 λp h=>Mj (A:=ann 22 []) (ren:=[]) (fz:=[]) CWT (by kernel_rfl) AG (by
 show COP p;rw[CZP]<;> delta NE Kq AO DV OP Cu Yk fF FC GF GD HB A1 AH EV DK LI ED DN ID HC FA Ha Ax
 obtain⟨h1,h2⟩:0<=p.st/\p.st<=2000:=h
 rw[JC (by omega) (by omega),JC (by omega) (by omega),CGX]
 unfold CB
 by_cases h:p.st=2000<;>simp[h])
def LL(x:Ln)(g:Gau):Bool:=decide (g.lo*(hasM x g.st).d<=(hasM x g.st).n)&&decide ((hasM x g.st).n<=g.hi*(hasM x g.st).d)
def Oy(g:Gau):Prop:=0<=g.st/\g.st<=2000/\0<=g.lo/\g.lo<=g.hi/\g.hi<=200000
def CEQ(a:LnG):Prop:=BG Try.prog (ann 30 [(BWR,CEV)]) BRY (AL BRY) (xLG a) (AF []) (.bool (LL a.x a.g)) [] [] []
abbrev BLE:=LnG.x
abbrev AKC:=LnG.g
abbrev tR:=LL
attribute [go_sem] BLE AKC tR
theorem CTT(a:LnG):(CEQ a)=(HG (LJ (BLE a)) (BC (EY (AKC a))) (HN (EY (AKC a))) (TU (tR (BLE a) (AKC a)) (hd6 (GE (sT (BLE a) (EY (AKC a)))) (PW (Gau.lo (AKC a)) (IG (sT (BLE a) (EY (AKC a)))))) (hd7 (GE (sT (BLE a) (EY (AKC a)))) (PW (GW (AKC a)) (IG (sT (BLE a) (EY (AKC a)))))))):=by kernel_rfl
def BQK:=pD dLG (λa=>.bool (LL a.x a.g)) (λa=>[RF a.x,Oy a.g])
theorem BUZ:AM Try.prog AAG BQK:=Hv xLG hLG λa h=>Mj (A:=ann 30 [(BWR,CEV)]) (ren:=[]) (fz:=[]) CTO (by kernel_rfl) (AB CVT AG) (by
 show CEQ a;rw[CTT]<;> delta JB hd5 hd6 hd7 Oz NE DJ DX Hy EY GW FC GF GD HB GE IG sT BLE AKC tR AH AJ EV BC EU YB HN PW HJ QE HG LJ TU;try simp only[CC,eq_self,implies_true,forall_const]
 obtain⟨h1,h2,h3,h4,h5,h6⟩:RF a.x/\Oy a.g:=h
 have hd:=CLZ (t:=a.g.st) h1
 have b1:=mulb (A:=200000) (B:=2000) h4 (by omega) (show 0<=(hasM a.x a.g.st).d by omega) hd.2
 have b2:=mulb (A:=200000) (B:=2000) (show 0<=a.g.hi by omega) (by omega) (show 0<=(hasM a.x a.g.st).d by omega) hd.2
 rw[JC (by omega) (by omega),JC (by omega) (by omega)]
 refine⟨⟨h1,h2,h3⟩,?_⟩
 unfold LL
 cases decide (a.g.lo*(hasM a.x a.g.st).d<=(hasM a.x a.g.st).n)<;>simp_all)
end Go.Bal
