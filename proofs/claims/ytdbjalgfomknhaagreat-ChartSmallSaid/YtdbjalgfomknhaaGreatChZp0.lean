/- Package chart, with the reference: its rows and peaks of Peak (no program in sight). -/
import Derived.Test.YtdbjalgfomknhaaGreatChZs
set_option linter.unusedVariables false
set_option linter.unusedSimpArgs false
namespace Go.Bal
open Go Go.Sym Go.Proofs
def zpF(x:CZ2):Int:=HJ x.f (-100000000)
def zpT(x:CZ2):Int:=QC x.t 100000000
def ownS(x:CZ2)(a b q:Nat):Span:=bif decide (q<a) then⟨(gD (ZJ x.a) q).lo,QC (gD (ZJ x.a) q).hi (wr (zpF x-1))⟩ else bif decide (q>b) then⟨HJ (gD (ZJ x.a) q).lo (wr (zpT x+1)),(gD (ZJ x.a) q).hi⟩ else⟨HJ (gD (ZJ x.a) q).lo (zpF x),QC (gD (ZJ x.a) q).hi (zpT x)⟩
def ownF(x:CZ2)(a b k q:Nat):Span:=bif decide (q<k) then ownS x a b q else gD (ZJ x.a) q
def ownL(x:CZ2)(a b:Nat):List Span:=NK x.a.c.ms.length λq=>ownF x a b x.a.c.ms.length q
def pkT1(p s:Span):Span:=⟨HJ p.lo s.lo,HJ p.hi s.hi⟩
def pkP(x:CZ2)(a b:Nat):Nat->Span
 |0=>⟨0,0⟩
 |i+1=>bif decide (i<a) then pkP x a b i else bif decide (i>b) then pkP x a b i else pkT1 (bif decide (i=a) then YW x.a.c (i:Int) else pkP x a b i) (YW x.a.c (i:Int))
def zpH(x:CZ2):Prop:=DJ x.a=0/\x.f<=x.t/\x.f<=100000000 /\ -100000000<=x.t
theorem BQN{x:CZ2}(h:zpH x):(-100000000<=zpF x/\zpF x<=100000000)/\(-100000000<=zpT x/\zpT x<=100000000)/\(x.f<=zpF x/\(zpF x=x.f∨zpF x=-100000000))/\zpT x<=x.t/\(zpT x=x.t∨zpT x=100000000):=by
 obtain⟨_,h1,h2,h3⟩:=h
 unfold zpF zpT
 rcases Jd x.f (-100000000) with⟨q,_⟩ | ⟨q,_⟩<;>rcases qA x.t 100000000 with⟨r,_⟩ | ⟨r,_⟩<;>rw[q,r]<;>omega
theorem BJH{x:CZ2}{a b q:Nat}(hq:q<x.a.c.ms.length):gD (ownL x a b) q=ownS x a b q:=by
 unfold ownL;rw[FF _ _ _ hq];unfold ownF;rw[decide_eq_true hq];rfl
def ownQ(x:CZ2)(a b q:Nat)(v:Int):Prop:=(q<a->v<=zpF x-1)/\(b<q->zpT x+1<=v)/\(a<=q->q<=b->zpF x<=v/\v<=zpT x)
theorem CJJ{x:CZ2}(h:zpH x){a b q:Nat}(hab:a<=b)(v:Int):(ownS x a b q).has v↔(gD (ZJ x.a) q).has v/\ownQ x a b q v:=by
 obtain⟨r1,r2,_⟩:=BQN h
 have e1:wr (zpF x-1)=zpF x-1:=Ap (by omega) (by omega)
 have e2:wr (zpT x+1)=zpT x+1:=Ap (by omega) (by omega)
 unfold ownS ownQ
 rw[e1,e2]
 by_cases q1:q<a
 ·rw[decide_eq_true q1]
  show ((gD (ZJ x.a) q).lo<=v/\v<=QC (gD (ZJ x.a) q).hi (zpF x-1))↔((gD (ZJ x.a) q).lo<=v/\v<=(gD (ZJ x.a) q).hi)/\_
  rw[le_minI];omega
 ·rw[decide_eq_false q1]
  by_cases q2:q>b
  ·rw[decide_eq_true q2]
   show (HJ (gD (ZJ x.a) q).lo (zpT x+1)<=v/\v<=(gD (ZJ x.a) q).hi)↔((gD (ZJ x.a) q).lo<=v/\v<=(gD (ZJ x.a) q).hi)/\_
   rw[maxI_le];omega
  ·rw[decide_eq_false q2]
   show (HJ (gD (ZJ x.a) q).lo (zpF x)<=v/\v<=QC (gD (ZJ x.a) q).hi (zpT x))↔((gD (ZJ x.a) q).lo<=v/\v<=(gD (ZJ x.a) q).hi)/\_
   rw[maxI_le,le_minI];omega
theorem BPR{x:CZ2}(h:zpH x){a b q:Nat}(hq:q<x.a.c.ms.length):(-100000000<=(ownS x a b q).lo/\(ownS x a b q).lo<=100000001) /\ -100000001<=(ownS x a b q).hi/\(ownS x a b q).hi<=100000000:=by
 obtain⟨r1,r2,_⟩:=BQN h
 have hc:=KB.1 (As h.1).1
 have t:=BAS hc h.1 hq
 unfold nL at t
 have e1:wr (zpF x-1)=zpF x-1:=Ap (by omega) (by omega)
 have e2:wr (zpT x+1)=zpT x+1:=Ap (by omega) (by omega)
 unfold ownS
 rw[e1,e2]
 have m1:=Jd (gD (ZJ x.a) q).lo (zpT x+1)
 have m2:=Jd (gD (ZJ x.a) q).lo (zpF x)
 have m3:=qA (gD (ZJ x.a) q).hi (zpF x-1)
 have m4:=qA (gD (ZJ x.a) q).hi (zpT x)
 cases decide (q<a) with
 |true=>show (_<=(gD (ZJ x.a) q).lo/\(gD (ZJ x.a) q).lo<=_)/\_<=QC (gD (ZJ x.a) q).hi (zpF x-1)/\QC (gD (ZJ x.a) q).hi (zpF x-1)<=_;omega
 |false=>
  cases decide (q>b) with
  |true=>show (_<=HJ (gD (ZJ x.a) q).lo (zpT x+1)/\HJ (gD (ZJ x.a) q).lo (zpT x+1)<=_)/\_<=(gD (ZJ x.a) q).hi/\(gD (ZJ x.a) q).hi<=_;omega
  |false=>show (_<=HJ (gD (ZJ x.a) q).lo (zpF x)/\HJ (gD (ZJ x.a) q).lo (zpF x)<=_)/\_<=QC (gD (ZJ x.a) q).hi (zpT x)/\QC (gD (ZJ x.a) q).hi (zpT x)<=_;omega
theorem CJP{x:CZ2}(h:zpH x)(zl:x.a.z.length<4611686018427387904)(a b:Nat):PreS ⟨x.a,ownL x a b⟩:=by
 have hl:(ownL x a b).length=x.a.c.ms.length:=rng_length _ _
 refine⟨(As h.1).1,(As h.1).2.1,zl,hl,λi hi=>?_,λi hi=>?_⟩
 ·have hi:i<(ownL x a b).length:=hi
  show nL _ (gD (ownL x a b) i)
  rw[BJH (by omega)]
  have:=BPR h (a:=a) (b:=b) (q:=i) (by omega)
  unfold nL;omega
 ·have hi:i<(ownL x a b).length:=hi
  show _<=(gD (ownL x a b) i).lo/\(gD (ownL x a b) i).hi<=_
  rw[BJH (by omega)]
  have:=BPR h (a:=a) (b:=b) (q:=i) (by omega)
  omega
theorem CKN{x:CZ2}(h:zpH x){i j:Nat}(hij:i<=j)(hj:j<x.a.c.ms.length):(sY ⟨x.a,ownL x i j⟩).2=yT x i j:=by
 have hc:=KB.1 (As h.1).1
 obtain⟨r1,r2,r3,r4⟩:=BQN h
 have hft:uC x<=tQ x:=by
  obtain⟨_,h1,h2,h3⟩:=h
  unfold uC tQ
  rcases Jd x.f (-100000001) with⟨q,_⟩ | ⟨q,_⟩<;>rcases qA x.t 100000001 with⟨r,_⟩ | ⟨r,_⟩<;>rw[q,r]<;>omega
 rw[CBB,Bool.eq_iff_iff,BHM hc h.1 hij hj hft]
 show (XS (FZ x.a) (ownL x i j)).all Od=true↔_
 rw[W0 hc h.1 (l:=ownL x i j) (rng_length _ _) (λq hq=>by
  rw[BJH hq];have:=BPR h (a:=i) (b:=j) hq;unfold nL;omega) (Q:=ownQ x i j) (λq hq v=>by rw[BJH hq];exact CJJ h hij v)]
 constructor
 ·rintro⟨u,u1,u2⟩
  refine⟨u,u1,λq hq=>?_⟩
  have bk:=u1.bd hc hq
  obtain⟨a1,a2,a3⟩:=u2 q hq
  constructor
  ·rintro⟨k1,k2⟩
   refine⟨Classical.byContradiction λe=>?_,Classical.byContradiction λe=>?_⟩
   ·have:=a1 (by omega);omega
   ·have:=a2 (by omega);omega
  ·rintro⟨k1,k2⟩
   have:=a3 k1 k2;omega
 ·rintro⟨u,u1,u2⟩
  refine⟨u,u1,λq hq=>?_⟩
  have bk:=u1.bd hc hq
  have w:=u2 q hq
  refine⟨λe=>?_,λe=>?_,λe1 e2=>?_⟩
  ·have l:=u1.lt hc (show q<i by omega) (by omega)
   have w2:=(u2 i (by omega)).2 (by omega)
   have:¬ (x.f<=u q/\u q<=x.t):=λz=>by have:=w.1 z;omega
   omega
  ·have l:=u1.lt hc (show j<q by omega) hq
   have w2:=(u2 j hj).2 (by omega)
   have:¬ (x.f<=u q/\u q<=x.t):=λz=>by have:=w.1 z;omega
   omega
  ·have:=w.2 ⟨e1,e2⟩;omega
theorem DBR(x:CZ2){a b:Nat}:∀k,a<=k->k<=b->(∀i,a<=i->i<=k->(YW x.a.c (i:Int)).lo<=(pkP x a b (k+1)).lo/\(YW x.a.c (i:Int)).hi<=(pkP x a b (k+1)).hi)/\(∃i,(a<=i/\i<=k)/\(pkP x a b (k+1)).lo=(YW x.a.c (i:Int)).lo)/\∃i,(a<=i/\i<=k)/\(pkP x a b (k+1)).hi=(YW x.a.c (i:Int)).hi:=by
 intro k
 induction k with
 |zero=>
  intro h1 h2
  obtain rfl:a=0:=by omega
  have e:pkP x 0 b 1=pkT1 (YW x.a.c ((0:Nat):Int)) (YW x.a.c ((0:Nat):Int)):=by
   show (bif decide (0<0) then _ else bif decide (0>b) then _ else pkT1 (bif decide (0=0) then _ else _) _)=_
   rw[decide_eq_false (show ¬ 0>b by omega)];rfl
  rw[e]
  have m1:=Jd (YW x.a.c ((0:Nat):Int)).lo (YW x.a.c ((0:Nat):Int)).lo
  have m2:=Jd (YW x.a.c ((0:Nat):Int)).hi (YW x.a.c ((0:Nat):Int)).hi
  refine⟨λi i1 i2=>?_,⟨0,⟨by omega,by omega⟩,?_⟩,⟨0,⟨by omega,by omega⟩,?_⟩⟩
  ·obtain rfl:i=0:=by omega
   show _<=HJ _ _/\_<=HJ _ _;omega
  ·show HJ _ _=_;omega
  ·show HJ _ _=_;omega
 |succ k ih=>
  intro h1 h2
  by_cases e:a=k+1
  ·have e2:pkP x a b (k+1+1)=pkT1 (YW x.a.c ((k+1:Nat):Int)) (YW x.a.c ((k+1:Nat):Int)):=by
    show (bif decide (k+1<a) then _ else bif decide (k+1>b) then _ else pkT1 (bif decide (k+1=a) then _ else _) _)=_
    rw[decide_eq_false (show ¬ k+1<a by omega),decide_eq_false (show ¬ k+1>b by omega),decide_eq_true e.symm];rfl
   rw[e2]
   have m1:=Jd (YW x.a.c ((k+1:Nat):Int)).lo (YW x.a.c ((k+1:Nat):Int)).lo
   have m2:=Jd (YW x.a.c ((k+1:Nat):Int)).hi (YW x.a.c ((k+1:Nat):Int)).hi
   refine⟨λi i1 i2=>?_,⟨k+1,⟨by omega,by omega⟩,?_⟩,⟨k+1,⟨by omega,by omega⟩,?_⟩⟩
   ·obtain rfl:i=k+1:=by omega
    show _<=HJ _ _/\_<=HJ _ _;omega
   ·show HJ _ _=_;omega
   ·show HJ _ _=_;omega
  ·obtain⟨p1,⟨i1,q1,q2⟩,⟨i2,q3,q4⟩⟩:=ih (by omega) (by omega)
   have e2:pkP x a b (k+1+1)=pkT1 (pkP x a b (k+1)) (YW x.a.c ((k+1:Nat):Int)):=by
    show (bif decide (k+1<a) then _ else bif decide (k+1>b) then _ else pkT1 (bif decide (k+1=a) then _ else _) _)=_
    rw[decide_eq_false (show ¬ k+1<a by omega),decide_eq_false (show ¬ k+1>b by omega),decide_eq_false (show ¬ k+1=a by omega)];rfl
   rw[e2]
   have m1:=Jd (pkP x a b (k+1)).lo (YW x.a.c ((k+1:Nat):Int)).lo
   have m2:=Jd (pkP x a b (k+1)).hi (YW x.a.c ((k+1:Nat):Int)).hi
   refine⟨λi j1 j2=>?_,?_,?_⟩
   ·show _<=HJ _ _/\_<=HJ _ _
    by_cases e3:i=k+1
    ·subst e3;omega
    ·have:=p1 i j1 (by omega);omega
   ·show ∃i,_/\HJ _ _=_
    rcases m1 with⟨m,_⟩ | ⟨m,_⟩
    ·exact⟨i1,by omega,by rw[m,q2]⟩
    ·exact⟨k+1,by omega,m⟩
   ·show ∃i,_/\HJ _ _=_
    rcases m2 with⟨m,_⟩ | ⟨m,_⟩
    ·exact⟨i2,by omega,by rw[m,q4]⟩
    ·exact⟨k+1,by omega,m⟩
theorem BRX(x:CZ2){a b:Nat}(hab:a<=b):∀k,b+1<=k->pkP x a b k=pkP x a b (b+1)
 |0,h=>by omega
 |k+1,h=>by
  by_cases e:b=k
  ·subst e;rfl
  ·rw[<-BRX x hab k (by omega)]
   show (bif decide (k<a) then _ else bif decide (k>b) then _ else pkT1 _ _)=_
   rw[decide_eq_false (show ¬ k<a by omega),decide_eq_true (show k>b by omega)];rfl
theorem CTH(x:CZ2){a b:Nat}(hab:a<=b)(hb:b<x.a.c.ms.length):pkP x a b x.a.c.ms.length=⟨gLo (rC x a b),gHi (rC x a b)⟩:=by
 rw[BRX x hab _ (by omega)]
 obtain⟨p1,⟨i1,q1,q2⟩,⟨i2,q3,q4⟩⟩:=DBR x (a:=a) (b:=b) b hab (Nat.le_refl _)
 have hl:=CJQ x a b
 obtain⟨g1,⟨j1,g2,g3⟩⟩:=CVN (l:=rC x a b) (by omega)
 obtain⟨g4,⟨j2,g5,g6⟩⟩:=CUO (l:=rC x a b) (by omega)
 have at_:∀k,k<b+1-a->gD (rC x a b) k=YW x.a.c ((a+k:Nat):Int):=λk hk=>by rw[CZV x hk,Tp (by omega)]
 rw[at_ j1 (by omega)] at g3
 rw[at_ j2 (by omega)] at g6
 have k1:=g1 (i1-a) (by omega)
 rw[at_ _ (by omega),show a+(i1-a)=i1 by omega] at k1
 have k2:=g4 (i2-a) (by omega)
 rw[at_ _ (by omega),show a+(i2-a)=i2 by omega] at k2
 have k3:=(p1 (a+j1) (by omega) (by omega)).1
 have k4:=(p1 (a+j2) (by omega) (by omega)).2
 generalize pkP x a b (b+1)=P at *
 obtain⟨P1,P2⟩:=P
 simp only at *
 congr 1<;>omega
theorem DDV{x:CZ2}(h0:DJ x.a=0)(hft:x.f<=x.t)(ho:x.f>100000000∨x.t < -100000000):bB x=(⟨0,0⟩,5):=by
 have hc:=KB.1 (As h0).1
 have e:bB x=bU (xM x x.a.c.ms.length):=by
  unfold bB O3;rw[h0,decide_eq_false (show ¬ x.t<x.f by omega)];rfl
 rw[e]
 rcases (CJT hc h0 hft).who with⟨⟨s,u,u1,i,j,i1,i2,i3,_⟩,_⟩ | ⟨_,q⟩
 ·exfalso
  have b:=u1.bd hc (i:=i) (by omega)
  have:=(i3 i (by omega)).2 (by omega)
  omega
 ·exact q
end Go.Bal

namespace Go.Bal
open Go Go.Sym Go.Proofs
structure IJK where
 i:Nat
 j:Nat
 k:Nat
 deriving Inhabited
def zpB(x:CZ2)(h:Hul):List (Nat×HCell):=[(201,.live (xO x.a.c)),(202,.live (.box [.int 0,.int 0])),(203,.live (.box [.int h.s.lo,.int h.s.hi]))]
def zpS(x:CZ2)(h:Hul):List (Nat×AVal):=[(1,.d (GB x.a.z)),(2,.int (zpF x)),(3,.int (zpT x)),(4,.bptr 201 0),(8,.bptr 202 0),(10,.d (HA (ZJ x.a))),(12,.bptr 203 0),(13,.bool h.m)]
def zp12(x:CZ2):Shape:={ α:=Nat,dflt:=0,T:=λa=>⟨zpS x (xM x a) ++ [(14,.int a)],zpB x (xM x a)⟩,inv:=λa=>a<=x.a.c.ms.length/\zpH x,meas:=λa=>x.a.c.ms.length-a,first:=[(201,1000),(202,1016),(203,10000)] }
def zp15(x:CZ2)(m:Nat):Shape:={ α:=IJ,dflt:=default,T:=λs=>⟨zpS x (pkI x s.i (xM x s.i) (s.j-s.i)) ++ [(14,.int s.i),(15,.int s.j)],zpB x (pkI x s.i (xM x s.i) (s.j-s.i))⟩,inv:=λs=>(s.i<x.a.c.ms.length/\x.a.c.ms.length-s.i=m/\s.i<=s.j/\s.j<=x.a.c.ms.length)/\zpH x,meas:=λs=>x.a.c.ms.length-s.j }
def zp20(x:CZ2)(m n:Nat):Shape:={ α:=IJK,dflt:=default,T:=λs=>⟨zpS x (pkI x s.i (xM x s.i) (s.j-s.i)) ++ [(14,.int s.i),(15,.int s.j),(16,.own 204 2 0 x.a.c.ms.length),(17,.bptr 205 0),(18,.int s.k)],zpB x (pkI x s.i (xM x s.i) (s.j-s.i)) ++ [(204,.live (.row 2 x.a.c.ms.length λq=>MV (ownF x s.i s.j s.k q))),(205,.live (.box [.int (pkP x s.i s.j s.k).lo,.int (pkP x s.i s.j s.k).hi]))]⟩,inv:=λs=>(s.i<=s.j/\s.j<x.a.c.ms.length/\x.a.c.ms.length-s.i=m/\x.a.c.ms.length-s.j=n/\s.k<=x.a.c.ms.length)/\zpH x,meas:=λs=>x.a.c.ms.length-s.k,first:=[(204,18032),(205,19000)] }
def CPO(x:CZ2):Ann:={ ann 158 [(Wi,C_Times.spec B6),(fE,C_zst.spec dCtI),(zO,BSD),(oO,C_zSet.spec dZL)] with mt:=λid=>id==17,loops:=λid=>if id=12 then some [zp12 x] else none,inner:=λgs id=>if id=15 then some [zp15 x (gs.getD 0 0)] else if id=20 then some [zp20 x (gs.getD 1 0) (gs.getD 0 0)] else none }
def CPB(x:CZ2):Prop:=ES Try.prog (CPO x) BGS (AJ BGS) (xCZ2 x) (AD []) (.tup [.d (MV (bB x).1),.int (bB x).2]) [] [] []
abbrev BCX:=@Exists IJK
abbrev Gp:=IJK.i
abbrev By:=IJK.j
abbrev OY:=IJK.k
abbrev wL a:=zY (bB a)
abbrev Vm a:=sN (bB a)
abbrev BHX a b:=HD a (S0 b)
abbrev BAC a:=BHX (-100000000) a
abbrev AZY a:=HD (M6 a) 100000000
abbrev BDH a b:=BHX (M6 a) b
abbrev BDA a:=Pf (QS a)
abbrev fR a b c d e f:=AI a (BDA b) (BDH c d) (AZY e) (BAC f)
abbrev Ky a:=GD (JN a)
abbrev rO a:=AF (zpT a)
abbrev qU a:=AF (zpF a)
abbrev kT a:=wW (QS a)
abbrev kN a:=vG (QS a)
abbrev gT a b:=CE a (PP b)
abbrev Ez a b:=BAQ a (Gp b) (By b)
abbrev aB a b c:=AZS a (Gp b) (By c)
abbrev Lb a b c d:=pkP a (Gp b) (By c) (OY d)
abbrev Cq a b c:=ownF a (Gp b) (By b) (OY b) c
abbrev eU a:=BG (OY a)
abbrev Uq a b c d:=NU a (eU b) c d
abbrev Uu a b c:=Cq a b (eU c)
attribute [go_sem] BCX Gp By OY wL Vm BHX BAC AZY BDH BDA fR Ky rO qU kT kN gT Ez aB Lb Cq eU Uq Uu
theorem CYZ(x:CZ2):(CPB x)=(LQ (Hn x) (Gm x) (BM (JN x)) (BV (JN x)) (BQ (JN x)) (IA (gW x x) (λi=>YC i (QS x) (JN x)) (BO (JN x)) (AB (λi=>AT i (JN x) (fL x i) (eD x i) (gS x i) (cS x i) (dX x i) (fX x i) (eH x i))) (WA (QS x)) (AB (λi=>WL i (QS x))) (Aj (QS x)) (IL (JN x)) (Ad (QS x))) (FV (MG (ZD (Mx x x))) (SY (UO (Vm x)) (WH (Vm x)) (wL x) (ZD (Mx x x))) (FV (NL (S0 x) (M6 x)) (SY (UO (Vm x)) (WH (Vm x)) (wL x) 4) (Cg (WB (M6 x) 100000000) (NL (S0 x) (-100000000)) (SY (UO (Vm x)) (WH (Vm x)) (wL x) 5) (HX (λi=>Bq (QP (kN x) (kT x) (AY (zpF x) (Md (M6 x) (-100000000))) (AY (zpT x) (iC (S0 x) 100000000)) (ML (Dx x) (XG (Mx x x))) (λj=>Io j (Dx x) (XG (Mx x x))) (DZ (pX x i)) (CQ i) (pI (Hn x) (Gm x) (JN x) (Ky x) (oZ (JN x) (UO (Gx x i)) (WH (Gx x i))))) (CW i (PP x)) (BDA x) (BDH x x) (AZY x) (BAC x)) (λi=>OO (fR (CW i (PP x)) x x x x x) i (dS x) (Qn (λj=>BL (kN x) (CF (kT x) (qU x) (rO x) (Ur x) (λk=>Bt k (Dx x)) (MD (Zk x j j) (pX x i)) (Oq j i) (CV (GU j) i) (La (Hn x) (Gm x) (JN x) (Ky x) (Br x j) (Gx x i) (AQ (Br x j) (Gx x i)))) (fR (FY (gT (EL j) x) (rL x j i) (sG j j) (rD j x)) x x x x x))) (tO (λj=>XL (fR (FY (gT (EL j) x) (rL x j i) (sG j j) (rD j x)) x x x x x) (GU j) (dS x) (AH (Fx (YM AG YF) IP (dS x) (Jk (dS x)) (Mn (dS x)) (Nv (dS x) 16)) (BCX (λk=>Bq (AI (kN x) (kT x) (qU x) (rO x) (BB (Ur x) (dL x) (MD (aB x k k) (Zk x j j)) (CV (Gp k) (EL j)) (CV (By k) (GU j)) AG (CH (PP x) (BG (dS x))) (CQ (OY k)) (La (Hn x) (Gm x) (JN x) (Ky x) (Ez x k) (Br x j) (Nq (AQ (Ez x k) (Br x j)) (CH (PP x) (BG (dS x))) (λl=>KL l (JN x) (AZ (Cq x k l) (OV (Dx x) (QI l))) (AQ (Cq x k l) (OV (Dx x) (QI l)))) (UO (Lb x k k k)) (WH (Lb x k k k)))))) (VD (CW (Gp k) (By k)) (gT (By k) x) (Vb x (Gp k) i) (Vb x (By k) (GU j)) (OY k) (PP x)) (BDA x) (BDH x x) (AZY x) (BAC x))) ((λ(f:IJK->Prop)=>∀(x:IJK),f x) (λk=>XL (fR (VD (CW (Gp k) (By k)) (gT (By k) x) (Vb x (Gp k) i) (Vb x (By k) (GU j)) (OY k) (PP x)) x x x x x) (OY k) (dS x) (EZ (JY (OY k) (Gp k)) (CL (OY k) (PP x) (GT (eU k) (PP x) (NJ (OY k) (PP x)) (HU (eU k) (PP x)))) (BCX (λl=>IF (AI (kN x) (kT x) (qU x) (rO x) (BB (Ur x) (dL x) (MD (aB x l l) (aB x k k)) (CV (Gp l) (Gp k)) (CV (By l) (By k)) AG (Ky x) (BA (OY l) (OY k)) (La (Hn x) (Gm x) (JN x) (Ky x) (Ez x l) (Ez x k) (Nq (AQ (Ez x l) (Ez x k)) (Ky x) (λm=>KL m (JN x) (BD (Cq x l m) (Uq m k (BH (Uu x k k)) (BH (Cq x k m)))) (BC (Cq x l m) (Uq m k (gG (Uu x k k) (ZN (zpF x))) (BK (Cq x k m))))) (AZ (Lb x l l l) (Lb x k k k)) (AQ (Lb x l l l) (Lb x k k k)))))) (fR (VD (CW (Gp l) (By l)) (gT (By l) x) (Vb x (Gp l) i) (Vb x (By l) (GU j)) (OY l) (PP x)) x x x x x) (PP x) (OY l) (OY k))) (EZ (UP (OY k) (CG (By k))) (CL (OY k) (PP x) (GT (eU k) (PP x) (NJ (OY k) (PP x)) (HU (eU k) (PP x)))) (BCX (λl=>IF (AI (kN x) (kT x) (qU x) (rO x) (BB (Ur x) (dL x) (MD (aB x l l) (aB x k k)) (CV (Gp l) (Gp k)) (CV (By l) (By k)) AG (Ky x) (BA (OY l) (OY k)) (La (Hn x) (Gm x) (JN x) (Ky x) (Ez x l) (Ez x k) (Nq (AQ (Ez x l) (Ez x k)) (Ky x) (λm=>KL m (JN x) (BD (Cq x l m) (Uq m k (aJ (Uu x k k) (HR (zpT x))) (BH (Cq x k m)))) (BC (Cq x l m) (Uq m k (BK (Uu x k k)) (BK (Cq x k m))))) (AZ (Lb x l l l) (Lb x k k k)) (AQ (Lb x l l l) (Lb x k k k)))))) (fR (VD (CW (Gp l) (By l)) (gT (By l) x) (Vb x (Gp l) i) (Vb x (By l) (GU j)) (OY l) (PP x)) x x x x x) (PP x) (OY l) (OY k))) (And (CL (OY k) (PP x) (GT (eU k) (PP x) (NJ (OY k) (PP x)) (Wb (gT (eU k) x) (NJ (OY k) (PP x)) (HU (eU k) (PP x))))) (FV (Og (CG (OY k)) (CG (Gp k))) (Be (Hn x) (Gm x) (BM (JN x)) (Ar (JN x) (gW x x) (kK x x) (λl=>AT l (JN x) (fL x l) (eD x l) (gS x l) (cS x l) (dX x l) (fX x l) (eH x l)) (EF (OY k)) (rQ (OY k) (QS x)) (GZ (Nc x))) (Fp (Hn x) (Gm x) (JN x) (gW x x) (Lx (kK x x) (JN x) (λl=>AT l (JN x) (fL x l) (eD x l) (gS x l) (cS x l) (dX x l) (fX x l) (eH x l)) (EF (OY k)) (CL (OY k) (Cy (QS x)) (GZ (Nc x))) (Hn x) (Gm x) (BM (JN x)) (Ar (JN x) (gW x x) (kK x x) (λl=>AT l (JN x) (fL x l) (eD x l) (gS x l) (cS x l) (dX x l) (fX x l) (eH x l)) (EF (OY k)) (rQ (OY k) (QS x)) (GZ (Nc x))))) (BCX (λl=>IF (AI (kN x) (kT x) (qU x) (rO x) (BB (Ur x) (dL x) (MD (aB x l l) (aB x k k)) (CV (Gp l) (Gp k)) (CV (By l) (By k)) AG (Ky x) (BA (OY l) (OY k)) (La (Hn x) (Gm x) (JN x) (Ky x) (Ez x l) (Ez x k) (Nq (AQ (Ez x l) (Ez x k)) (Ky x) (λm=>KL m (JN x) (BD (Cq x l m) (Uq m k (Uq (eU k) k (aJ (Uu x k k) (zpF x)) (BH (Uu x k k))) (Uq m k (aJ (Uu x k k) (zpF x)) (BH (Cq x k m))))) (BC (Cq x l m) (Uq m k (gG (Uu x k k) (zpT x)) (Uq m k (BK (Uu x k k)) (BK (Cq x k m)))))) (BD (Lb x l l l) (Md (Eu (Nc x) (OY k)) (Eu (Nc x) (OY k)))) (BC (Lb x l l l) (Md (Hg (Nc x) (OY k)) (Hg (Nc x) (OY k)))))))) (fR (VD (CW (Gp l) (By l)) (gT (By l) x) (Vb x (Gp l) i) (Vb x (By l) (GU j)) (OY l) (PP x)) x x x x x) (PP x) (OY l) (OY k)))) (And (Fp (Hn x) (Gm x) (JN x) (gW x x) (Lx (kK x x) (JN x) (λl=>AT l (JN x) (fL x l) (eD x l) (gS x l) (cS x l) (dX x l) (fX x l) (eH x l)) (EF (OY k)) (CL (OY k) (Cy (QS x)) (GZ (Nc x))) (Hn x) (Gm x) (BM (JN x)) (Ar (JN x) (gW x x) (kK x x) (λl=>AT l (JN x) (fL x l) (eD x l) (gS x l) (cS x l) (dX x l) (fX x l) (eH x l)) (EF (OY k)) (rQ (OY k) (QS x)) (GZ (Nc x))))) (BCX (λl=>IF (AI (kN x) (kT x) (qU x) (rO x) (BB (Ur x) (dL x) (MD (aB x l l) (aB x k k)) (CV (Gp l) (Gp k)) (CV (By l) (By k)) AG (Ky x) (BA (OY l) (OY k)) (La (Hn x) (Gm x) (JN x) (Ky x) (Ez x l) (Ez x k) (Nq (AQ (Ez x l) (Ez x k)) (Ky x) (λm=>KL m (JN x) (BD (Cq x l m) (Uq m k (Uq (eU k) k (aJ (Uu x k k) (zpF x)) (BH (Uu x k k))) (Uq m k (aJ (Uu x k k) (zpF x)) (BH (Cq x k m))))) (BC (Cq x l m) (Uq m k (gG (Uu x k k) (zpT x)) (Uq m k (BK (Uu x k k)) (BK (Cq x k m)))))) (BD (Lb x l l l) (aJ (Lb x k k k) (Eu (Nc x) (OY k)))) (BC (Lb x l l l) (Md (BK (Lb x k k k)) (Hg (Nc x) (OY k)))))))) (fR (VD (CW (Gp l) (By l)) (gT (By l) x) (Vb x (Gp l) i) (Vb x (By l) (GU j)) (OY l) (PP x)) x x x x x) (PP x) (OY l) (OY k)))))))) (And (Fp (Hn x) (Gm x) (JN x) (gW x x) (IY (kK x x) (BO (JN x)) (λl=>AT l (JN x) (fL x l) (eD x l) (gS x l) (cS x l) (dX x l) (fX x l) (eH x l)) (WA (QS x)) (λl=>WL l (QS x)) (FW (IH (Me (PP x) (λl=>Cq x k l))) (JN x)) (KC (PP x)) (AB (λl=>UG l (Me (PP x) (λm=>Cq x k m)) (Cq x k (BG l)))) (PreS (N0 (Mx x x) (Me (PP x) (λl=>Cq x k l)))))) (FV (kD (N0 (Mx x x) (Me (PP x) (λl=>Cq x k l)))) (Qn (λl=>FH (kN x) (CF (kT x) (qU x) (rO x) (Ur x) (λm=>Bt m (Dx x)) (EA (Zk x l l)) (Oq l (Gp k)) (Zt l (By k)) (La (Hn x) (Gm x) (JN x) (Ky x) (Br x l) (Ve (Ez x k) (aB x k k) (Lb x k k k)) (AQ (Br x l) (Ve (Ez x k) (aB x k k) (Lb x k k k))))) (fR (FY (gT (EL l) x) (rL x l i) (sG l l) (rD l x)) x x x x x) (PP x) (GU l) (GU j))) (Qn (λl=>FH (kN x) (CF (kT x) (qU x) (rO x) (Ur x) (λm=>Bt m (Dx x)) (MD (Zk x l l) (aB x k k)) (Oq l (Gp k)) (Zt l (By k)) (La (Hn x) (Gm x) (JN x) (Ky x) (Br x l) (Ez x k) (AQ (Br x l) (Ez x k)))) (fR (FY (gT (EL l) x) (rL x l i) (sG l l) (rD l x)) x x x x x) (PP x) (GU l) (GU j)))))))) (KI (λk=>IF (BB (kN x) (kT x) (qU x) (rO x) (Ur x) (dL x) (MD (pX x k) (Zk x j j)) (BA k (EL j)) (La (Hn x) (Gm x) (JN x) (Ky x) (Gx x k) (Br x j) (AQ (Gx x k) (Br x j)))) (fR (CW k (PP x)) x x x x x) (PP x) k i)))) (FV (not (pX x i)) (SY (UO (Vm x)) (WH (Vm x)) (wL x) 5) (Qx (AZ (Vm x) (Gx x i)) (AQ (Vm x) (Gx x i)) (wL x))))))))):=by kernel_rfl
theorem BIZ(x:CZ2)(a b k q:Nat):ownF x a b (k+1) q=bif decide (q=k) then ownS x a b k else ownF x a b k q:=by
 unfold ownF
 by_cases e:q=k
 ·subst e
  rw[decide_eq_true (show q<q+1 by omega),decide_eq_true (rfl:q=q)];rfl
 ·rw[decide_eq_false e]
  by_cases e2:q<k
  ·rw[decide_eq_true e2,decide_eq_true (show q<k+1 by omega)];rfl
  ·rw[decide_eq_false e2,decide_eq_false (show ¬ q<k+1 by omega)];rfl
theorem BHR(x:CZ2)(a b k:Nat):ownF x a b k k=gD (ZJ x.a) k:=by
 unfold ownF;rw[decide_eq_false (Nat.lt_irrefl k)];rfl
theorem CXA(x:CZ2)(a b q:Nat):ownF x a b 0 q=gD (ZJ x.a) q:=by
 unfold ownF;rw[decide_eq_false (Nat.not_lt_zero q)];rfl
theorem BSN(x:CZ2){a b k:Nat}(h:k<a∨b<k):pkP x a b (k+1)=pkP x a b k:=by
 show (bif decide (k<a) then _ else bif decide (k>b) then _ else pkT1 _ _)=_
 by_cases e:k<a
 ·rw[decide_eq_true e];rfl
 ·rw[decide_eq_false e,decide_eq_true (show k>b by omega)];rfl
theorem BSK(x:CZ2){a b k:Nat}(h1:¬ k<a)(h2:¬ b<k):pkP x a b (k+1)=pkT1 (bif decide (k=a) then YW x.a.c (k:Int) else pkP x a b k) (YW x.a.c (k:Int)):=by
 show (bif decide (k<a) then _ else bif decide (k>b) then _ else pkT1 _ _)=_
 rw[decide_eq_false h1,decide_eq_false (show ¬ k>b by omega)];rfl
theorem DAP(x:CZ2)(h:x.a.c.ms.length<4611686018427387904/\x.a.c.ns.length<4611686018427387904/\x.a.z.length<4611686018427387904):CPB x:=by
 rw[CYZ]<;> delta MD N6 Iv BH BK DY RD RU Mr EM EO CH IH AB CJ CE AY OV CG MY CW FV NL HD KA UI Md iC IG EB FX EC GY GX GR GG DV FO FU KI IP Me FP FS El Og LW WB US IV QR ED NR WW FN TW Ty Lg qQ XT Ek bC Ti sN zY QS S0 M6 Qn EL GU tO AEK T7 N0 BCX Gp By OY AH CK IW AX JE AI WE BC AV AF IK IN BI Jc Wb Oh AQ WV JB BB AC Kv BZ CN BF MC AE Ei AO BD DD LZ AZ DC BG BR BE JN BS BJ JQ AR BQ Au IS LY BV HF CI EQ GQ BL Qh AS BM ER FL EV CF AG IE HR BX KL NU CU GW Cy HO DN MW GD CX OT OR LH DU tP HY IC DR OU HG PC QQ EA DT KQ HH FE FG FW AT IZ SK Qp VV MJ ZN ZS IT DX PP OS Ge CR EZ GT EX JJ BA ZR Dx BP CV HT CS NZ GZ DZ HU HW BO JH FI AL AN AM LJ KO GP NP ZP FK KX NX KE vK LS Py Bt FT EF XI NV VD HI TO SN CQ CL XP AGE RE Ig Ak JY FH BAQ IL FY ML VU Pf Al Bb Dt JK KC VB IF IA ON UP HX PF IY XG eU PY XE NJ Nc Cq YC XR MG Dj QP wW Fx BHX vG Cg YM AZS Xo ZD LQ SY Ad Aj WA WL Br Ez Fp Oq QI Gx Hn UO Vb Gm YF Ky WH OO oZ Eu XL AGR Hg Dp UG Io pI Lb Mx Vm Lx BDA Uu BDH Ur Uq AZY BAC Bq Ve aB gT kN Jk dL La Ar kT dS Zk rO qU Be gW fL Nv aJ eD Mn Nq dX rD gS Zt pX fX gG wL kD eH sG cS kK fR rL rQ Qx;simp only[CC,eq_self,implies_true,forall_const,FR,Ee,AGQ]
 refine⟨h,λh1=>?_,λh1=>?_⟩
 ·have hn:(DJ x.a==0)=false:=by simpa using h1
  unfold bB;rw[hn];exact⟨rfl,rfl,rfl⟩
 have h0:DJ x.a=0:=by simpa using h1
 have c0:=(As h0).1
 obtain⟨m1,m2⟩:=(KB.1 c0).m
 have tl:=hX h0
 rw[AQQ h0]
 simp only[CC,eq_self,implies_true,forall_const,tl,AXE]
 refine⟨λhlt=>?_,λhge=>⟨λho=>?_,λhi=>?_⟩⟩
 ·unfold bB O3;rw[h0,decide_eq_true hlt];exact⟨rfl,rfl,rfl⟩
 ·have ho:x.f>100000000∨x.t < -100000000:=by
   by_cases q:x.f>100000000
   ·exact .inl q
   ·rw[decide_eq_false q] at ho;exact .inr (of_decide_eq_true ho)
  rw[DDV h0 (by omega) ho];exact⟨rfl,rfl,rfl⟩
 have hz:zpH x:=by
  by_cases q:x.f>100000000
  ·rw[decide_eq_true q] at hi;cases hi
  ·rw[decide_eq_false q] at hi
   have q2:¬ x.t < -100000000:=of_decide_eq_false hi
   exact⟨h0,by omega,by omega,by omega⟩
 have ev:bB x=bU (xM x x.a.c.ms.length):=by
  unfold bB O3;rw[h0,decide_eq_false (show ¬ x.t<x.f by omega)];rfl
 have hft:uC x<=tQ x:=by
  obtain⟨_,h1,h2,h3⟩:=hz
  unfold uC tQ
  rcases Jd x.f (-100000001) with⟨q,_⟩ | ⟨q,_⟩<;>rcases qA x.t 100000001 with⟨r,_⟩ | ⟨r,_⟩<;>rw[q,r]<;>omega
 have sO:∀a,xM x (a+1)=pkI x a (xM x a) (x.a.c.ms.length-a):=λa=>by
  show (bif decide (tQ x>=uC x) then _ else _)=_
  rw[decide_eq_true (show tQ x>=uC x from hft)];rfl
 simp only[ev]
 refine⟨⟨0,⟨rfl,rfl,rfl,rfl,rfl,rfl⟩,Nat.zero_le _,hz⟩,λa ⟨a1,_⟩=>⟨λhlt=>⟨⟨⟨a,a⟩,?_,⟨by show a<_;omega,rfl,Nat.le_refl _,by show a<=_;omega⟩,hz⟩,λs ⟨⟨s1,s2,s3,s4⟩,_⟩=>⟨λhj=>?_,λhj=>?_⟩⟩,λhge2=>?_⟩⟩
 ·have e:pkI x a (xM x a) (a-a)=xM x a:=by rw[Nat.sub_self];rfl
  exact⟨congrArg Hul.m e,rfl,rfl,congrArg (λh=>h.s.lo) e,congrArg (λh=>h.s.hi) e⟩
 ·have hj:s.j<x.a.c.ms.length:=by omega
  refine⟨⟨(λh=>by cases h),by omega,by omega⟩,⟨⟨s.i,s.j,0⟩,⟨rfl,rfl,rfl,rfl,rfl,rfl,λq _=>by rw[CXA];exact⟨rfl,rfl⟩,rfl,rfl⟩,⟨s3,hj,s2,rfl,Nat.zero_le _⟩,hz⟩,λv ⟨⟨v1,v2,v3,v4,v5⟩,_⟩=>⟨λhk=>?_,λhk=>?_⟩⟩
  ·have hk:v.k<x.a.c.ms.length:=by omega
   refine⟨λc1=>⟨⟨by omega,by omega,by omega,by omega⟩,⟨v.i,v.j,v.k+1⟩,⟨rfl,rfl,rfl,(II (by omega)).symm,rfl,rfl,λq hq=>?_,?_,?_⟩,⟨⟨v1,v2,v3,v4,by show v.k+1<=_;omega⟩,hz⟩,by show x.a.c.ms.length-(v.k+1)<x.a.c.ms.length-v.k;omega⟩,λc1=>⟨λc2=>⟨⟨by omega,by omega,by omega,by omega⟩,⟨v.i,v.j,v.k+1⟩,⟨rfl,rfl,rfl,(II (by omega)).symm,rfl,rfl,λq hq=>?_,?_,?_⟩,⟨⟨v1,v2,v3,v4,by show v.k+1<=_;omega⟩,hz⟩,by show x.a.c.ms.length-(v.k+1)<x.a.c.ms.length-v.k;omega⟩,λc2=>⟨⟨by omega,by omega,by omega,by omega,by omega,by omega,by omega,by omega⟩,λc3=>⟨⟨by omega,c0⟩,⟨by omega,c0⟩,⟨v.i,v.j,v.k+1⟩,⟨rfl,rfl,rfl,(II (by omega)).symm,rfl,rfl,λq hq=>?_,?_,?_⟩,⟨⟨v1,v2,v3,v4,by show v.k+1<=_;omega⟩,hz⟩,by show x.a.c.ms.length-(v.k+1)<x.a.c.ms.length-v.k;omega⟩,λc3=>⟨⟨by omega,c0⟩,⟨v.i,v.j,v.k+1⟩,⟨rfl,rfl,rfl,(II (by omega)).symm,rfl,rfl,λq hq=>?_,?_,?_⟩,⟨⟨v1,v2,v3,v4,by show v.k+1<=_;omega⟩,hz⟩,by show x.a.c.ms.length-(v.k+1)<x.a.c.ms.length-v.k;omega⟩⟩⟩⟩
   ·have c1:v.k<v.i:=by omega
    rw[BHR,BIZ];unfold ownS;rw[decide_eq_true c1]
    cases decide (q=v.k)<;>exact⟨rfl,rfl⟩
   ·show (pkP x v.i v.j (v.k+1)).lo=_
    rw[BSN x (.inl (by omega))]
   ·show (pkP x v.i v.j (v.k+1)).hi=_
    rw[BSN x (.inl (by omega))]
   ·have c1:¬ v.k<v.i:=by omega
    have c2:v.k>v.j:=by omega
    rw[BHR,BIZ];unfold ownS;rw[decide_eq_false c1,decide_eq_true c2]
    cases decide (q=v.k)<;>exact⟨rfl,rfl⟩
   ·show (pkP x v.i v.j (v.k+1)).lo=_
    rw[BSN x (.inr (by omega))]
   ·show (pkP x v.i v.j (v.k+1)).hi=_
    rw[BSN x (.inr (by omega))]
   ·have c1:¬ v.k<v.i:=by omega
    have c2:¬ v.k>v.j:=by omega
    rw[BHR,BIZ];unfold ownS;rw[decide_eq_false c1,decide_eq_false c2]
    cases decide (q=v.k)<;>exact⟨rfl,rfl⟩
   ·have c3:v.k=v.i:=by simp at c3;omega
    show (pkP x v.i v.j (v.k+1)).lo=_
    rw[BSK x (by omega) (by omega),decide_eq_true c3];rfl
   ·have c3:v.k=v.i:=by simp at c3;omega
    show (pkP x v.i v.j (v.k+1)).hi=_
    rw[BSK x (by omega) (by omega),decide_eq_true c3];rfl
   ·have c1:¬ v.k<v.i:=by omega
    have c2:¬ v.k>v.j:=by omega
    rw[BHR,BIZ];unfold ownS;rw[decide_eq_false c1,decide_eq_false c2]
    cases decide (q=v.k)<;>exact⟨rfl,rfl⟩
   ·have c3:¬ v.k=v.i:=by simp at c3;omega
    show (pkP x v.i v.j (v.k+1)).lo=_
    rw[BSK x (by omega) (by omega),decide_eq_false c3];rfl
   ·have c3:¬ v.k=v.i:=by simp at c3;omega
    show (pkP x v.i v.j (v.k+1)).hi=_
    rw[BSK x (by omega) (by omega),decide_eq_false c3];rfl
  ·have ek:v.k=x.a.c.ms.length:=by omega
   have eL:(NK x.a.c.ms.length λq=>ownF x v.i v.j x.a.c.ms.length q)=ownL x v.i v.j:=rfl
   simp only[ek,eL,CKN hz v1 v2,CTH x v1 v2]
   refine⟨⟨by omega,λq hq=>?_,CJP hz h.2.2 _ _⟩,λhw=>⟨⟨v.i,v.j+1⟩,?_,⟨⟨by show v.i<_;omega,v3,by show v.i<=v.j+1;omega,by show v.j+1<=_;omega⟩,hz⟩,by show x.a.c.ms.length-(v.j+1)<_;omega⟩,λhw=>⟨⟨v.i,v.j+1⟩,?_,⟨⟨by show v.i<_;omega,v3,by show v.i<=v.j+1;omega,by show v.j+1<=_;omega⟩,hz⟩,by show x.a.c.ms.length-(v.j+1)<_;omega⟩⟩
   ·unfold ownL;rw[FF _ _ _ hq];exact⟨rfl,rfl⟩
   ·have e:=pk1 x (xM x v.i) v1 hw
    refine⟨?_,rfl,(II (by omega)).symm,?_,?_⟩
    ·show (pkI x v.i (xM x v.i) (v.j+1-v.i)).m=_
     rw[e];rfl
    ·show (pkI x v.i (xM x v.i) (v.j+1-v.i)).s.lo=_
     rw[e]
    ·show (pkI x v.i (xM x v.i) (v.j+1-v.i)).s.hi=_
     rw[e]
   ·have e:=pk0 x (xM x v.i) v1 hw
    refine⟨?_,rfl,(II (by omega)).symm,?_,?_⟩
    ·show (pkI x v.i (xM x v.i) (v.j+1-v.i)).m=_
     rw[e]
    ·show (pkI x v.i (xM x v.i) (v.j+1-v.i)).s.lo=_
     rw[e]
    ·show (pkI x v.i (xM x v.i) (v.j+1-v.i)).s.hi=_
     rw[e]
 ·have ej:s.j=x.a.c.ms.length:=by omega
  refine⟨s.i+1,?_,⟨by omega,hz⟩,by omega⟩
  rw[sO,ej];exact⟨rfl,(II (by omega)).symm,rfl,rfl⟩
 ·obtain rfl:a=x.a.c.ms.length:=by omega
  unfold bU
  refine⟨λq=>?_,λq=>?_⟩<;>rw[q]<;>exact⟨rfl,rfl,rfl⟩
theorem CTD:AW Try.prog BIX (C_Peak.spec dCZ2):=Je C_Peak CPO [] [] CFD (λ_=>by kernel_rfl) (λ_=>AA L0 (AA AYE (AA BQP (AA BHS AK)))) (λx h=>DAP x h) (λ_=>Kp rfl rfl) _
end Go.Bal
