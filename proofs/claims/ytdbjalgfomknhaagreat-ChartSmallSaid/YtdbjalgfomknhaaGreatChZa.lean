/- Package chart, with the reference: Check, stages of a mark. -/
import Derived.Test.YtdbjalgfomknhaaGreatChZn
import Derived.Test.YtdbjalgfomknhaaGreatChM
set_option linter.unusedVariables false
set_option linter.unusedSimpArgs false
namespace Go.Bal
open Go Go.Sym Go.Proofs
def CES(x:I3):Prop:=ES Try.prog (ann 15 []) BQC (AJ BQC) (xI3 x) (AD []) (.bool (!PN x.a x.b x.c)) [] [] []
theorem COB(x:I3):(CES x)=(MD (ZO (I3.a x) (I3.b x) (I3.c x)) (KE (NL (I3.a x) (I3.b x)) (WB (I3.a x) (I3.c x)))):=by kernel_rfl
def A8:=pD dI3 λx=>.bool (!PN x.a x.b x.c)
theorem AAC:AW Try.prog vT A8:=cC xI3 hI3 λx _=>Wk (A:=ann 15 []) (ren:=[]) (fz:=[]) CNF (by kernel_rfl) AK (by
 show CES x;rw[COB]<;> delta MD N6 NL LW WB KE ZO
 unfold PN;by_cases h:x.b<=x.a<;>by_cases h2:x.a<=x.c<;>simp[h,h2]<;>omega)
def CFM(x:SII):Prop:=ES Try.prog (ann 24 []) APZ (AJ APZ) (xSII x) (AD []) (.bool (!Hx x.s x.a x.b)) [] [] []
abbrev jK a b:=WB a (BK b)
attribute [go_sem] jK
theorem CNB(x:SII):(CFM x)=(MD (not (hd9 (hd10 x) (SII.a x) (SII.b x))) (Nw (NL (BH (hd10 x)) (SII.a x)) (WB (BK (hd10 x)) (SII.b x)) (jK (BH (hd10 x)) (hd10 x)))):=by kernel_rfl
def CFV:=pD dSII λx=>.bool (!Hx x.s x.a x.b)
theorem CJF:AW Try.prog ATO CFV:=cC xSII hSII λx _=>Wk (A:=ann 24 []) (ren:=[]) (fz:=[]) BOS (by kernel_rfl) AK (by
 show CFM x;rw[CNB]<;> delta MD N6 hd9 hd10 BH BK NL LW WB KE Nw jK
 unfold Hx PN
 by_cases h1:x.a<=x.s.lo<;>by_cases h2:x.s.lo<=x.b<;>by_cases h3:x.s.lo<=x.s.hi<;>by_cases h4:x.s.hi<=x.b<;>simp[h1,h2,h3,h4]<;>omega)
def prvP(c:Cht):Nat->Int
 |0=>-1
 |k+1=>(gD c.ms k).pl
def rgt(c:Cht)(k:Nat):Bool:=Du (gD c.ns k) c.ms.length
def zEq(c:Cht)(i k:Nat):Bool:=!((gD c.ns i).mi==(gD c.ns k).mi)
def zk6(c:Cht):Shape:={ α:=Nat,dflt:=0,T:=λk=>⟨[(1,.bptr 201 0),(3,.int k)],[(201,.live (xO c))]⟩,inv:=λk=>k<=c.ms.length/\Gh c=0/\A6 (prvP c k) (c.ms.drop k)=A6 (-1) c.ms,meas:=λk=>c.ms.length-k,first:=[(201,1000)] }
def zk13(c:Cht):Shape:={ α:=Nat,dflt:=0,T:=λk=>⟨[(1,.bptr 201 0),(4,.int k)],[(201,.live (xO c))]⟩,inv:=λk=>k<=c.ns.length/\Gh c=0/\A6 (-1) c.ms=0/\Lu (rgt c) k=true,meas:=λk=>c.ns.length-k }
def zk19(c:Cht):Shape:={ α:=Nat,dflt:=0,T:=λk=>⟨[(1,.bptr 201 0),(6,.int k)],[(201,.live (xO c))]⟩,inv:=λk=>k<=c.ns.length/\Gh c=0/\A6 (-1) c.ms=0/\Lu (rgt c) c.ns.length=true/\Lu (J3 c.ns) k=true,meas:=λk=>c.ns.length-k }
def zk22(c:Cht)(m:Nat):Shape:={ α:=IJ,dflt:=default,T:=λs=>⟨[(1,.bptr 201 0),(6,.int s.i),(7,.int s.j)],[(201,.live (xO c))]⟩,inv:=λs=>(s.i<c.ns.length/\c.ns.length-s.i=m/\s.j<=s.i)/\Gh c=0/\A6 (-1) c.ms=0/\Lu (rgt c) c.ns.length=true/\Lu (J3 c.ns) s.i=true/\Lu (zEq c s.i) s.j=true,meas:=λs=>s.i-s.j }
def BLH(c:Cht):Ann:={ ann 137 [(vT,A8),(ATO,CFV)] with loops:=λid=>if id=6 then some [zk6 c] else if id=13 then some [zk13 c] else if id=19 then some [zk19 c] else none,inner:=λgs id=>if id=22 then some [zk22 c (gs.getD 0 0)] else none }
def BML(c:Cht):Prop:=ES Try.prog (BLH c) BCW (AJ BCW) (C_Check.xs c) (AD []) (C_Check.val c) [] [] []
abbrev oQ a b:=V9 (rgt a) b
abbrev Td a b c d e f:=GT a b (FI c d e) f
abbrev Fi a b c d:=Td a b b a c d
abbrev cV a b c d:=Fi a (AO b) c d
abbrev kI a b:=Xo a (EL b)
abbrev bM a b c:=KH a (AO b) c
abbrev Yl a:=HM (VJ a)
attribute [go_sem] oQ Td Fi cV kI bM Yl
theorem BWL(c:Cht):(BML c)=(Cg (KE (NL (MZ c) 1) (WB (MZ c) 40)) (UP (AO c) 20) (Cm c 3) (Cg (Nw (not (hd9 (EC c) 1 600)) (ZO (GY c) (-1000000) 1000000) (An (GX c) 1000)) (An (GR c) 1000) (Cm c 30) (HX (λi=>BL (CQ i) (KP c) (SY (eE i c) (Ju c) (A6 (prvP c i) (ALE i (FX c))) (uJ c))) (λi=>ON (SY (eE i c) (Ju c) (A6 (prvP c i) (ALE i (FX c))) (uJ c)) (Sp i c) (CL i (AX c) (Uw (An (BE c i) 10000) (NJ i (AX c)))) (Cg (An (BE c i) 10000) (An (BS c i) 1000) (Cm c 30) (BL (pH i (NJ i (AX c))) (UV (Ie i) (VJ i) (AX c)) (WF (IB (Ie i) (hd7 (BE c i) (BE c (Yl i)))) (Cm c 9) (λj=>FH (BA j i) (KP c) (SY (eE j c) (Ju c) (A6 (prvP c j) (ALE j (FX c))) (uJ c)) (AX c) j i)))) (HX (λj=>AI (And (CQ j) (KP c)) (Qc j c) (Ju c) (Yg c) (oQ c j)) (λj=>XL (bM j c (AH (Ju c) (Yg c) (oQ c j))) j (AO c) (CL j (AO c) (Cg (KE (An (BR c j) (ZN (MZ c))) (not (hd9 (AC c j) 0 10000000))) (not (hd9 (AE c j) (-3000000) 3000000)) (Cm c 30) (KI (λk=>FH (BA k j) (KP c) (bM k c (AH (Ju c) (Yg c) (oQ c k))) (AO c) k j)))) (HX (λk=>BL (CQ k) (KP c) (AI (Qc k c) (Ju c) (Yg c) (oQ c (AO c)) (kO c k))) (λk=>OO (AI (Qc k c) (Ju c) (Yg c) (oQ c (AO c)) (kO c k)) k (AO c) (Qn (λl=>CS (AH (Oq l k) (CQ (GU l)) (KP c)) (cV (EL l) c k (kI l l)) (Ju c) (Yg c) (oQ c (AO c)) (kO c (EL l)) (V9 (zEq c (EL l)) (GU l)))) (tO (λl=>OO (Bq (cV (EL l) c k (kI l l)) (Ju c) (Yg c) (oQ c (AO c)) (kO c (EL l)) (V9 (zEq c (EL l)) (GU l))) (GU l) (EL l) (Cl (EL l) (Jl l) (AO c) (DX (GU l)) (Us (Iq l) c)) (FV (Og (BR c (EL l)) (BR c (GU l))) (Cm c 10) (Qn (λm=>Ng (Wo m l) (Zt m (GU l)) (KP c) (Bq (cV (EL m) c k (kI m m)) (Ju c) (Yg c) (oQ c (AO c)) (kO c (EL m)) (V9 (zEq c (EL m)) (GU m))) (JJ (EL m) (GU m) (EL l) (GU l))))) (KI (λm=>FH (BA m (EL l)) (KP c) (AI (Qc m c) (Ju c) (Yg c) (oQ c (AO c)) (kO c m)) (AO c) m k)))) (GZ c))))))))):=by kernel_rfl
theorem BTU{c:Cht}{i:Nat}(hi:i<c.ns.length):J3 c.ns i=Lu (zEq c i) i:=by
 rw[Bool.eq_iff_iff,BBB hi,Rw]
 unfold zEq
 simp only[Bool.not_eq_true',beq_eq_false_iff_ne]
 exact⟨λh j hj e=>h j hj e.symm,λh j hj e=>h j hj e.symm⟩
theorem BII(c:Cht):c.ns.all (λn=>Du n c.ms.length)=Lu (rgt c) c.ns.length:=by
 rw[Bool.eq_iff_iff,List.all_eq_true,Rw]
 constructor
 ·intro h i hi;exact h _ (OH hi)
 ·intro h n hn
  obtain⟨i,hi,rfl⟩:=Df hn
  exact h i hi
theorem BYO(c:Cht)(h:c.ms.length<4611686018427387904/\c.ns.length<4611686018427387904):BML c:=by
 obtain⟨hm,hn⟩:=h
 rw[BWL]<;> delta MD N6 hd7 Iv hd9 BH BK DY RD RU Mr EM EO CH AB CJ CE AY CG CW FV NL HD KA UI IG EB FX EC GY GX GR GG DV FO FU KI Og LW WB US ALE HM Qn EL GU tO AH CK AX AI BC AV AF BI AQ BB AC BZ CN BF AE AO DD DC BR BE BS BJ JQ BQ LY BV EQ BL BM CY BY FL HR BX KL DN MW GD OT OR LH DF MZ OU HG PC EA DT KQ FE FG MJ ZN ZS IT DX EZ GT EX JJ BA CV CS GZ HW JH FI GP NP FK KE FT QD VW HI TQ IB KH Td CQ VJ HZ CL Fi JY FH Dt JK Fq Ew ON UP HX ZO Iq Jl PY NJ KP Cg Cl Xo SY UV V9 Oq Ju Ie OO Cm An uJ XL WF Yg Nw Qc Yl Bq Wo Us bM kO kI Uw oQ eE cV Sp Zt Ng pH;simp only[CC,eq_self,implies_true,forall_const]
 have hA:(bif bif decide ((c.ms.length:Int)<1) then true else decide ((c.ms.length:Int)>40) then true else decide ((c.ns.length:Int)>20))=bif !PN c.ms.length 1 40 then true else decide ((c.ns.length:Int)>20):=by
  unfold PN
  by_cases h1:(1:Int)<=c.ms.length<;>by_cases h2:(c.ms.length:Int)<=40<;>simp[h1,h2]<;>omega
 simp only[hA]
 have k0:∀v:Int,v≠0->Gh c=0->A6 (-1) c.ms=v->AP c=v:=λv hv e hm=>by
  have hv0:=hv
  have hv':(v != 0)=true:=by simpa using hv
  unfold AP;rw[e,hm,hv'];rfl
 refine⟨λh1=>?_,λh1=>⟨λh2=>?_,λh2=>?_⟩⟩
 ·have e:Gh c=3:=by unfold Gh;rw[h1];rfl
  unfold AP;rw[e];rfl
 ·have e:Gh c=30:=by unfold Gh;rw[h1,h2];rfl
  unfold AP;rw[e];rfl
 have e:Gh c=0:=by unfold Gh;rw[h1,h2];rfl
 have hl:1<=c.ms.length/\c.ms.length<=40/\c.ns.length<=20:=by
  obtain⟨q1,q2,_⟩:=AMG.1 e;exact⟨q1.1,q1.2,q2⟩
 refine⟨⟨0,rfl,Nat.zero_le _,e,rfl⟩,λk ⟨s1,_,s3⟩=>⟨λhlt=>?_,λhge=>?_⟩⟩
 ·have hlt:k<c.ms.length:=by omega
  have hd:=AXJ hlt
  have s4:=s3
  rw[hd] at s3
  have hpr:∀v,PN (gD c.ms k).pl 0 10000=true->(bif decide ((k:Int)>0) then decide ((gD c.ms k).pl<=(gD c.ms (IntKind.i64.wrap ((k:Int)-1)).toNat).pl) else false)=v->decide ((gD c.ms k).pl<=prvP c k)=v:=by
   intro v hi hv
   rw[<-hv]
   rcases k with _ | k
   ·have:=(IX.1 hi).1
    rw[decide_eq_false (show ¬ (gD c.ms 0).pl<=prvP c 0 by show ¬ _<=(-1:Int);omega)];rfl
   ·rw[show IntKind.i64.wrap (((k+1:Nat):Int)-1)=(k:Int) from by rw[Ap (by omega) (by omega)];omega,decide_eq_true (show ((k+1:Nat):Int)>0 by omega)]
    rfl
  refine⟨⟨by omega,λ_=>by omega⟩,λh3=>?_,λh3=>⟨⟨λh=>by omega,λh=>?_⟩,λh4=>?_,λh4=>⟨k+1,(II (by omega)).symm,⟨by omega,e,?_⟩,by omega⟩⟩⟩
  ·exact k0 30 (by decide) e (by rw[<-s3];unfold A6;rw[h3];rfl)
  ·rw[show IntKind.i64.wrap ((k:Int)-1)=(k:Int)-1 from Ap (by omega) (by omega)];omega
  ·have hi:PN (gD c.ms k).pl 0 10000=true:=by
    cases hc:PN (gD c.ms k).pl 0 10000 with
    |true=>rfl
    |false=>rw[hc] at h3;cases h3
   exact k0 9 (by decide) e (by rw[<-s3];unfold A6;rw[h3,hpr _ hi h4];rfl)
  ·have hi:PN (gD c.ms k).pl 0 10000=true:=by
    cases hc:PN (gD c.ms k).pl 0 10000 with
    |true=>rfl
    |false=>rw[hc] at h3;cases h3
   rw[<-s3];conv=>rhs;unfold A6
   rw[h3,hpr _ hi h4];rfl
 ·have hmk:A6 (-1) c.ms=0:=by rw[<-s3,List.drop_of_length_le (by omega)];rfl
  refine⟨⟨0,rfl,Nat.zero_le _,e,hmk,rfl⟩,λk ⟨k1,_,_,k4⟩=>⟨λhlt=>?_,λhge=>?_⟩⟩
  ·have hlt:k<c.ns.length:=by omega
   have hr:∀v,(bif bif !PN (gD c.ns k).mi 0 (IntKind.i64.wrap ((c.ms.length:Int)-1)) then true else !Hx (gD c.ns k).t 0 10000000 then true else !Hx (gD c.ns k).s (-3000000) 3000000)=v->rgt c k=!v:=by
    intro v hv
    rw[<-hv];unfold rgt Du wr
    cases PN (gD c.ns k).mi 0 (IntKind.i64.wrap ((c.ms.length:Int)-1))<;>cases Hx (gD c.ns k).t 0 10000000<;>cases Hx (gD c.ns k).s (-3000000) 3000000<;>rfl
   refine⟨by omega,λh3=>?_,λh3=>⟨k+1,(II (by omega)).symm,⟨by omega,e,hmk,?_⟩,by omega⟩⟩
   ·have:=nP hlt (hr _ h3)
    unfold AP;rw[e,hmk,BII,this];rfl
   ·show (Lu (rgt c) k&&rgt c k)=true
    rw[k4,hr _ h3];rfl
  ·obtain rfl:k=c.ns.length:=by omega
   refine⟨⟨0,rfl,Nat.zero_le _,e,hmk,k4,rfl⟩,λi ⟨i1,_,_,_,i5⟩=>⟨λhlt=>⟨⟨⟨i,0⟩,⟨rfl,rfl⟩,⟨by show i<_;omega,rfl,Nat.zero_le _⟩,e,hmk,k4,i5,rfl⟩,λs ⟨⟨s1,s2,s3⟩,_,_,_,s7,s8⟩=>⟨λhj=>?_,λhj=>?_⟩⟩,λhge2=>?_⟩⟩
   ·have hj:s.j<s.i:=by omega
    refine⟨⟨by omega,by omega⟩,λh4=>?_,λh4=>⟨⟨s.i,s.j+1⟩,⟨rfl,(II (by omega)).symm⟩,⟨⟨s1,s2,by show s.j+1<=s.i;omega⟩,e,hmk,k4,s7,?_⟩,by show s.i-(s.j+1)<s.i-s.j;omega⟩⟩
    ·have hd:J3 c.ns s.i=false:=by
      rw[BTU s1];exact nP hj (by unfold zEq;rw[h4];rfl)
     have:=nP s1 hd
     unfold AP;rw[e,hmk,BII,k4,this];rfl
    ·show (Lu (zEq c s.i) s.j&&zEq c s.i s.j)=true
     rw[s8];unfold zEq;rw[h4];rfl
   ·have hj:s.j=s.i:=by omega
    refine⟨s.i+1,(II (by omega)).symm,⟨by omega,e,hmk,k4,?_⟩,by omega⟩
    show (Lu (J3 c.ns) s.i&&J3 c.ns s.i)=true
    rw[hj] at s8
    rw[s7,BTU s1,s8];rfl
   ·obtain rfl:i=c.ns.length:=by omega
    unfold AP;rw[e,hmk,BII,k4,i5];rfl
theorem dW:AW Try.prog Wd (C_Check.spec iT):=Je C_Check BLH [] [] BWI (λ_=>by kernel_rfl) (λ_=>AA AAC (AA CJF AK)) BYO (λ_=>Kp rfl rfl) _
structure CtI where
 c:Cht
 k:Int
def dCtI:List AVal->Heap->Option (CtI×List (Nat×Nat)×List Nat)
 |[x,.d k],H=>match tN x H with
  |some (c,f)=>some (⟨c,KN k⟩,[],f)
  |none=>none
 |_,_=>none
def stN(c:Cht)(m:Int):Nat->Span
 |0=>st0 c m
 |k+1=>bif (gD c.ns k).mi==m then uN (stN c m k) (gD c.ns k).s else stN c m k
def C_zst:Ctr:={ α:=CtI,xs:=λa=>[.d (Nj a.c),.int a.k],val:=λa=>.d (MV (YW a.c a.k)),keep:=λ_=>[],pre:=λa=>[(0<=a.k/\a.k<a.c.ms.length)/\AP a.c=0] }
def zs4(a:CtI):Shape:={ α:=NS,dflt:=default,T:=λs=>⟨[(1,.int a.k),(2,.bptr 201 0),(4,.bptr 202 0),(6,.bptr 203 0),(7,.int s.k)],[(201,.live (xO a.c)),(202,.live (.box [.int 0,.int 0])),(203,.live (.box [.int s.m.lo,.int s.m.hi]))]⟩,inv:=λs=>s.k<=a.c.ns.length/\s.m=stN a.c a.k s.k,meas:=λs=>a.c.ns.length-s.k,first:=[(201,1000),(202,1016),(203,3144)] }
def CQA(a:CtI):Ann:={ ann 67 [] with loops:=λid=>if id=4 then some [zs4 a] else none }
def CRG(a:CtI):Prop:=ES Try.prog (CQA a) ALM (AJ ALM) (C_zst.xs a) (AD []) (C_zst.val a) [] [] []
abbrev Uc:=CtI.k
abbrev ZH:=CtI.c
abbrev bA a b:=Ew a a b
abbrev oZ a b c:=Oh (HI a) BP b c
abbrev AGR a b c d:=oZ a (AZ b c) d
attribute [go_sem] Uc ZH bA oZ AGR
theorem CWO(a:CtI):(CRG a)=(Gv (Uc a) (ZH a) (hd25 (λi=>Ng (AF (Uc a)) (CQ (Lo i)) (bA (ZH a) (oZ (ZH a) (BD (mR i) (LH (ANN (ZH a) (Uc a)) (GR (ZH a)))) (BC (mR i) (EQ (ANN (ZH a) (Uc a)) (GR (ZH a)))))) (Qc (Lo i) (ZH a)) (xH i (stN (ZH a) (Uc a) (Lo i))))) (hd44 (λi=>XL (bM (Lo i) (ZH a) (xH i (stN (ZH a) (Uc a) (Lo i)))) (Lo i) (AO (ZH a)) (CL (Lo i) (AO (ZH a)) (Ht (Og (BR (ZH a) (Lo i)) (Uc a)) (NJ (Lo i) (AO (ZH a))) (hd25 (λj=>IF (AH (AF (Uc a)) (BA (Lo j) (Lo i)) (bA (ZH a) (oZ (ZH a) (BD (mR j) (aJ (mR i) (BH (AE (ZH a) (Lo i))))) (BC (mR j) (gG (mR i) (BK (AE (ZH a) (Lo i)))))))) (bM (Lo j) (ZH a) (xH j (stN (ZH a) (Uc a) (Lo j)))) (AO (ZH a)) (Lo j) (Lo i))) (hd25 (λj=>IF (AH (AF (Uc a)) (BA (Lo j) (Lo i)) (bA (ZH a) (AGR (ZH a) (mR j) (mR i) (AQ (mR j) (mR i))))) (bM (Lo j) (ZH a) (xH j (stN (ZH a) (Uc a) (Lo j)))) (AO (ZH a)) (Lo j) (Lo i))))) (And (AZ (Ty (ZH a) (Uc a)) (mR i)) (AQ (Ty (ZH a) (Uc a)) (mR i)))))):=by kernel_rfl
theorem BOM{c:Cht}{m:Int}:∀k,(∀i,i<k->(gD c.ns i).mi≠m)->stN c m k=st0 c m
 |0,_=>rfl
 |k+1,h=>by
  show (bif (gD c.ns k).mi==m then _ else _)=_
  rw[show ((gD c.ns k).mi==m)=false by simpa using h k (Nat.lt_succ_self _)]
  exact BOM k λi hi=>h i (by omega)
theorem CCG{c:Cht}(h:ChOk c){m:Int}{j:Nat}(hm:(gD c.ns j).mi=m):∀k,j<k->k<=c.ns.length->stN c m k=uN (st0 c m) (gD c.ns j).s
 |0,h1,_=>absurd h1 (Nat.not_lt_zero _)
 |k+1,h1,h2=>by
  show (bif (gD c.ns k).mi==m then _ else _)=_
  by_cases e:j=k
  ·subst e
   rw[show ((gD c.ns j).mi==m)=true by simpa using hm]
   show uN (stN c m j) _=_
   rw[BOM j λi hi e=>h.one i j hi (by omega) (by rw[e,hm])]
  ·rw[show ((gD c.ns k).mi==m)=false by simpa using λe2=>h.one j k (by omega) (by omega) (by rw[e2,hm])]
   exact CCG h hm k (by omega) (by omega)
theorem CNZ{c:Cht}(h:ChOk c)(m:Int):stN c m c.ns.length=YW c m:=by
 unfold YW
 cases hq:hasN c.ns m with
 |false=>
  refine BOM _ λi hi e=>?_
  have:=iR.2 ⟨gD c.ns i,OH hi,e⟩
  rw[hq] at this;cases this
 |true=>
  obtain⟨q1,q2⟩:=rY hq
  obtain⟨j,hj,e⟩:=Df q1
  show _=uN (st0 c m) (ntOf c.ns m).s
  rw[CCG h (j:=j) (by rw[e];exact q2) _ hj (Nat.le_refl _),e]
theorem DAV(a:CtI)(h:(0<=a.k/\a.k<a.c.ms.length)/\AP a.c=0):CRG a:=by
 obtain⟨hk,h0⟩:=h
 have hc:=KB.1 h0
 have hn:=hc.n
 rw[CWO]<;> delta BH BK DY RD RU Mr EM EO hd25 CH AB CJ CE AY CG Lo mR MY CW hd40 hd44 FV NL HD KA UI Md iC IG EB FX EC GY GX GR GG DV FO FU Og HM Qu Ty Uc ZH AH CK AX AI BC AV AF BI YX Oh AQ BB AC BZ CN BF AE AO BD DD AZ DC BR BE BS BJ JQ BQ LY BV EQ BL BM CY BY ER FL HR BX KL DN GD OT OR LH DF OU HG DT KQ FE MJ ZS DX EX JJ BA BP HW JH GP NP FK FT QD HI TQ KH CQ CL JY Dt Fq Ew IF Hd PY NJ bA YG Ht oZ XL AGR Qc Gv bM aJ ANN gG Ng xH;simp only[CC,eq_self,implies_true,forall_const]
 refine⟨hk,⟨⟨0,st0 a.c a.k⟩,⟨rfl,rfl,rfl⟩,Nat.zero_le _,rfl⟩,λs ⟨s1,s2⟩=>⟨λhlt=>?_,λhge=>?_⟩⟩
 ·have hlt:s.k<a.c.ns.length:=by omega
  refine⟨by omega,λh3=>⟨by omega,by omega,⟨s.k+1,uN s.m (gD a.c.ns s.k).s⟩,⟨(II (by omega)).symm,rfl,rfl⟩,⟨by show s.k+1<=_;omega,?_⟩,by show a.c.ns.length-(s.k+1)<_;omega⟩,λh3=>⟨⟨s.k+1,s.m⟩,⟨(II (by omega)).symm,rfl,rfl⟩,⟨by show s.k+1<=_;omega,?_⟩,by show a.c.ns.length-(s.k+1)<_;omega⟩⟩
  ·show uN s.m _=bif (gD a.c.ns s.k).mi==a.k then _ else _
   rw[h3,s2];rfl
  ·show s.m=bif (gD a.c.ns s.k).mi==a.k then _ else _
   rw[h3,s2];rfl
 ·have e:s.k=a.c.ns.length:=by omega
  rw[s2,e,CNZ hc];exact⟨rfl,rfl⟩
theorem AYE:AW Try.prog fE (C_zst.spec dCtI):=Je C_zst CQA [] [] BRA (λ_=>by kernel_rfl) (λ_=>AK) (λa h=>DAV a h) (λ_=>Kp rfl rfl) _
end Go.Bal

namespace Go.Bal
open Go Go.Sym Go.Proofs
theorem ARX{m:Int}(hm:1<=m/\m<=1000):∀(z:List Int) (a:Int),-1<=a->a<=1000->(Wc m a z=true↔(∀g∈z,a<g/\g+1<m)/\z.Pairwise (· < ·))
 |[],a,_,_=>⟨λ_=>⟨λg h=>(by cases h),.nil⟩,λ_=>rfl⟩
 |g :: r,a,h1,h2=>by
  show (bif PN g (wr (a+1)) (wr (m-2)) then Wc m g r else false)=true↔_
  have e1:wr (a+1)=a+1:=Ap (by omega) (by omega)
  have e2:wr (m-2)=m-2:=Ap (by omega) (by omega)
  rw[e1,e2]
  cases hi:PN g (a+1) (m-2) with
  |false=>
   refine⟨λh=>(by cases h),λh=>?_⟩
   have:=h.1 g (List.mem_cons_self ..)
   rw[IX.2 (by omega)] at hi;cases hi
  |true=>
   have hb:=IX.1 hi
   have ih:=ARX hm r g (by omega) (by omega)
   show Wc m g r=true↔_
   rw[ih,List.pairwise_cons]
   constructor
   ·rintro⟨q1,q2⟩
    refine⟨λx hx=>?_,λx hx=>(q1 x hx).1,q2⟩
    rcases List.mem_cons.1 hx with rfl | hx
    ·omega
    ·have:=q1 x hx;omega
   ·rintro⟨q1,q2,q3⟩
    exact⟨λx hx=>⟨q2 x hx,(q1 x (List.mem_cons_of_mem _ hx)).2⟩,q3⟩
theorem BRG{m:Int}:∀(z:List Int) (a:Int) (f:Nat->Bool) (j:Nat),-1<=a->a<=1000->1<=m/\m<=1000->Wc m a z=true->(Q5 m a z f j=true↔f j=true∨(j:Int)∈z)
 |[],a,f,j,_,_,_,_=>⟨λh=>.inl h,λh=>h.elim id λh=>(by cases h)⟩
 |g :: r,a,f,j,h1,h2,hm,h=>by
  have hh:=(ARX hm (g :: r) a h1 h2).1 h
  have hg:=hh.1 g (List.mem_cons_self ..)
  have h:(bif PN g (wr (a+1)) (wr (m-2)) then Wc m g r else false)=true:=h
  show (bif PN g (wr (a+1)) (wr (m-2)) then Q5 m g r (λi=>bif decide (i=g.toNat) then true else f i) j else f j)=true↔_
  cases hi:PN g (wr (a+1)) (wr (m-2)) with
  |false=>rw[hi] at h;cases h
  |true=>
   rw[hi] at h
   show Q5 m g r (λi=>bif decide (i=g.toNat) then true else f i) j=true↔_
   rw[BRG r g _ j (by omega) (by omega) hm h,List.mem_cons]
   by_cases e:j=g.toNat
   ·rw[decide_eq_true e]
    exact⟨λ_=>.inr (.inl (by omega)),λ_=>.inl rfl⟩
   ·rw[decide_eq_false e]
    have:¬ (j:Int)=g:=by omega
    constructor
    ·rintro (q | q)
     ·exact .inl q
     ·exact .inr (.inr q)
    ·rintro (q | q | q)
     ·exact .inl q
     ·exact absurd q this
     ·exact .inr q
theorem BJF{a:CZ}(h:1<=a.c.ms.length/\a.c.ms.length<=40):N7 a=true↔(∀g∈a.z,0<=g/\g+1<a.c.ms.length)/\a.z.Pairwise (· < ·):=by
 unfold N7
 rw[ARX (by omega) _ _ (by omega) (by omega)]
 exact⟨λq=>⟨λg hg=>by have:=q.1 g hg;omega,q.2⟩,λq=>⟨λg hg=>by have:=q.1 g hg;omega,q.2⟩⟩
theorem AXL{a:CZ}(h:1<=a.c.ms.length/\a.c.ms.length<=40)(hz:N7 a=true)(j:Nat):(FZ a).sp j=true↔(j:Int)∈a.z:=by
 show Q5 a.c.ms.length (-1) a.z (λ_=>false) j=true↔_
 rw[BRG a.z (-1) _ j (by omega) (by omega) (by omega) hz]
 exact⟨λq=>q.elim (λq=>by cases q) id,.inr⟩
end Go.Bal
