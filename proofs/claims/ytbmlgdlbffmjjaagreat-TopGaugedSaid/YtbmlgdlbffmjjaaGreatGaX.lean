/- Law TopGauged: what is drawn, measured and gauged (plain). -/
import Derived.Test.YtbmlgdlbffmjjaaGreatGaW
import Derived.Test.YtbmlgdlbffmjjaaGreatRT5
set_option linter.unusedVariables false
set_option linter.unusedSimpArgs false
namespace Go.Bal
open Go Go.Sym Go.Proofs
structure LvOk(K:Int)(x:LvS):Prop where
 e:0<=yY x/\yY x<=8
 r:gD x.h x.b.toNat-gD x.h x.a.toNat-yY x<=lvR x/\lvR x<=gD x.h x.b.toNat-gD x.h x.a.toNat+yY x
 s1:StmB (K+1) (lvS1 x)
 s2:StmB (K+2) (lvS x)
theorem BXR{K:Int}{x:LvS}(h:StmB K x.s)(hK:K<=1000)(h1:-1000<=gD x.h x.b.toNat/\gD x.h x.b.toNat<=1000)(h2:-1000<=gD x.h x.a.toNat/\gD x.h x.a.toNat<=1000):LvOk K x:=by
 have a:=M5 h (by omega) 9
 have ae:0<=yY x/\yY x<=8:=⟨a.1,by have:=a.2 (by omega);unfold yY;omega⟩
 have s1:StmB (K+1) (lvS1 x):=h.next (by omega) 9
 have en:wr (-(yY x))=-(yY x):=ZW (by omega) (by omega)
 have w:=ADE s1 (by omega) (lo:=-(yY x)) (hi:=yY x) (by omega) (by omega) (by omega)
 refine⟨ae,?_,s1,?_⟩
 ·unfold lvR
  rw[en]
  have e1:wr (gD x.h x.b.toNat-gD x.h x.a.toNat)=gD x.h x.b.toNat-gD x.h x.a.toNat:=ZW (by omega) (by omega)
  rw[e1]
  have e2:wr (gD x.h x.b.toNat-gD x.h x.a.toNat+witV (lvS1 x) (-(yY x)) (yY x))=gD x.h x.b.toNat-gD x.h x.a.toNat+witV (lvS1 x) (-(yY x)) (yY x):=ZW (by omega) (by omega)
  rw[e2];omega
 ·have:=s1.next (by omega) (witN (wr (-(yY x))) (yY x))
  have e:K+1+1=K+2:=by omega
  rw[e] at this;exact this
theorem max0{a t:Int}(h:a<=t)(ht:0<=t):0<=Ny 0 a/\a<=Ny 0 a/\Ny 0 a<=t:=by
 unfold Ny;split<;>omega
theorem BUU{a b c d:Int}(h1:0<=a)(h2:a<=b)(h3:0<=c)(h4:c<=d)(hb:b*d<=1000000000):tiV ⟨a,b⟩ ⟨c,d⟩=⟨a*c,b*d⟩:=by
 have m1:a*c<=a*d:=Int.mul_le_mul_of_nonneg_left h4 h1
 have m2:a*c<=b*c:=Int.mul_le_mul_of_nonneg_right h2 h3
 have m3:a*d<=b*d:=Int.mul_le_mul_of_nonneg_right h2 (by omega)
 have m4:b*c<=b*d:=Int.mul_le_mul_of_nonneg_left h4 (by omega)
 have m0:0<=a*c:=Int.mul_nonneg h1 h3
 have e1:wr (a*c)=a*c:=ZW (by omega) (by omega)
 have e2:wr (a*d)=a*d:=ZW (by omega) (by omega)
 have e3:wr (b*c)=b*c:=ZW (by omega) (by omega)
 have e4:wr (b*d)=b*d:=ZW (by omega) (by omega)
 unfold tiV
 simp only
 rw[e1,e2,e3,e4]
 unfold mi4 ma4 O8 Ny
 have f1:(if a*d<a*c then a*d else a*c)=a*c:=if_neg (by omega)
 have f2:(if b*c<a*c then b*c else a*c)=a*c:=if_neg (by omega)
 have f3:(if b*d<a*c then b*d else a*c)=a*c:=if_neg (by omega)
 rw[f1,f2,f3]
 congr 1
 split<;>split<;>split<;>omega
structure VtOk(v:Vt):Prop where
 d0:0<=v.d.lo
 d1:v.d.lo<=v.d.hi
 d2:v.d.hi<=400
 s0:0<=v.s.lo
 s1:v.s.lo<=v.s.hi
 s2:v.s.hi<=12
theorem VtOk.ok{v:Vt}(h:VtOk v):Rf v=true:=by
 have:=h.d0;have:=h.d1;have:=h.d2;have:=h.s0;have:=h.s1;have:=h.s2
 simp only[Rf,riV,MN,Bool.and_eq_true,decide_eq_true_eq]
 omega
theorem VtOk.prod{v:Vt}(h:VtOk v):0<=10*v.d.lo*v.s.lo/\10*v.d.lo*v.s.lo<=10*v.d.hi*v.s.hi/\10*v.d.hi*v.s.hi<=48000:=by
 have a:=h.d0;have b:=h.d1;have c:=h.d2;have d:=h.s0;have e:=h.s1;have f:=h.s2
 have m1:=Int.mul_nonneg (show 0<=10*v.d.lo by omega) d
 have m2:10*v.d.lo*v.s.lo<=10*v.d.hi*v.s.lo:=Int.mul_le_mul_of_nonneg_right (by omega) d
 have m3:10*v.d.hi*v.s.lo<=10*v.d.hi*v.s.hi:=Int.mul_le_mul_of_nonneg_left e (by omega)
 have m4:10*v.d.hi*v.s.hi<=10*v.d.hi*12:=Int.mul_le_mul_of_nonneg_left f (by omega)
 omega
theorem VtOk.flow{v:Vt}(h:VtOk v):flV v=⟨10*v.d.lo*v.s.lo,10*v.d.hi*v.s.hi⟩:=by
 have a:=h.d0;have b:=h.d1;have c:=h.d2;have d:=h.s0;have e:=h.s1;have f:=h.s2
 obtain⟨p1,p2,p3⟩:=h.prod
 have t1:tiV ⟨1,1⟩ ⟨10,10⟩=⟨10,10⟩:=by decide
 have t2:tiV ⟨10,10⟩ v.d=⟨10*v.d.lo,10*v.d.hi⟩:=BUU (by omega) (by omega) a b (by show 10*v.d.hi<=1000000000;omega)
 have t3:tiV ⟨10*v.d.lo,10*v.d.hi⟩ v.s=⟨10*v.d.lo*v.s.lo,10*v.d.hi*v.s.hi⟩:=BUU (by omega) (by omega) d e (by show 10*v.d.hi*v.s.hi<=1000000000;omega)
 unfold flV paV tmV plV
 simp only
 rw[t1,t2,t3]
 have e1:wr (0+10*v.d.lo*v.s.lo)=10*v.d.lo*v.s.lo:=by unfold wr;rw[ZW (by omega) (by omega)];omega
 have e2:wr (0+10*v.d.hi*v.s.hi)=10*v.d.hi*v.s.hi:=by unfold wr;rw[ZW (by omega) (by omega)];omega
 simp only[e1,e2]
structure TgF(K:Int)(y:TgS):Prop where
 s0:StmB K y.s
 s1:StmB (K+1) (tgS1 y)
 s2:StmB (K+2) (tgS2 y)
 q0:StmB K y.q
 q1:StmB (K+1) (lvS1 (L4 y))
 q2:StmB (K+2) (lvS (L4 y))
 q3:StmB (K+3) (lvS1 (X4 y))
 q4:StmB (K+4) (tgQ2 y)
 q5:StmB (K+5) (tgQ3 y)
 q6:StmB (K+6) (tgQ4 y)
 t0:StmB K y.t
 t1:StmB (K+1) (lvS1 (O7 y))
 t2:StmB (K+2) (tgT1 y)
 st:5<=Gv y/\Gv y<=300
 ok:GpOk (Wb y) (tgWv y) (Gv y)
 a:8<=tgA y/\tgA y<=10
 b:10<=tgB y/\tgB y<=12
theorem TgF.of{K:Int}{y:TgS}(hK:K<=900)(hs:StmB K y.s)(hq:StmB K y.q)(ht:StmB K y.t):TgF K y:=by
 have a1:=ADE hs (by omega) (lo:=5) (hi:=300) (by omega) (by omega) (by omega)
 have s1:StmB (K+1) (tgS1 y):=hs.next (by omega) _
 have a2:=ADE s1 (by omega) (lo:=-50) (hi:=90) (by omega) (by omega) (by omega)
 have s2:StmB (K+2) (tgS2 y):=by
  have:=s1.next (by omega) (witN (-50) 90)
  rw[show K+1+1=K+2 by omega] at this;exact this
 have hw:-50<=tgWv y/\tgWv y<=90:=a2
 have hst:5<=Gv y/\Gv y<=300:=a1
 have hn:wr (-(Gv y))=-(Gv y):=ZW (by omega) (by omega)
 have h0:gD (tgH y) 0=0:=rfl
 have h1:gD (tgH y) 1=tgWv y:=rfl
 have h2:gD (tgH y) 2=-(Gv y):=hn
 have l0:LvOk K (L4 y):=BXR hq (by omega) (by show -1000<=gD (tgH y) 1/\gD (tgH y) 1<=1000;rw[h1];omega) (by show -1000<=gD (tgH y) 0/\gD (tgH y) 0<=1000;rw[h0];omega)
 have l1:LvOk (K+2) (X4 y):=BXR l0.s2 (by omega) (by show -1000<=gD (tgH y) 1/\gD (tgH y) 1<=1000;rw[h1];omega) (by show -1000<=gD (tgH y) 2/\gD (tgH y) 2<=1000;rw[h2];omega)
 have l2:LvOk K (O7 y):=BXR ht (by omega) (by show -1000<=gD (tgH y) 2/\gD (tgH y) 2<=1000;rw[h2];omega) (by show -1000<=gD (tgH y) 0/\gD (tgH y) 0<=1000;rw[h0];omega)
 have q4:StmB (K+4) (tgQ2 y):=by have:=l1.s2;rw[show K+2+2=K+4 by omega] at this;exact this
 have q5:StmB (K+5) (tgQ3 y):=by have:=q4.next (by omega) 3;rw[show K+4+1=K+5 by omega] at this;exact this
 have q6:StmB (K+6) (tgQ4 y):=by have:=q5.next (by omega) 3;rw[show K+5+1=K+6 by omega] at this;exact this
 have v1:=M5 q4 (by omega) 3
 have v2:=M5 q5 (by omega) 3
 have v3:=v1.2 (by omega)
 have v4:=v2.2 (by omega)
 have r0:=l0.r;have r1:=l1.r;have r2:=l2.r
 rw[show gD (L4 y).h (L4 y).b.toNat=tgWv y from h1,show gD (L4 y).h (L4 y).a.toNat=0 from h0] at r0
 rw[show gD (X4 y).h (X4 y).b.toNat=tgWv y from h1,show gD (X4 y).h (X4 y).a.toNat=-(Gv y) from h2] at r1
 rw[show gD (O7 y).h (O7 y).b.toNat=-(Gv y) from h2,show gD (O7 y).h (O7 y).a.toNat=0 from h0] at r2
 have g0:=l0.e;have g1:=l1.e;have g2:=l2.e
 refine⟨hs,s1,s2,hq,l0.s1,l0.s2,?_,q4,q5,q6,ht,l2.s1,l2.s2,hst,?_,?_,?_⟩
 ·have:=l1.s1;rw[show K+2+1=K+3 by omega] at this;exact this
 ·refine⟨hw,hst,g0,g1,g2,?_,?_,?_⟩
  ·show tgWv y-yY (L4 y)<=lvR (L4 y)/\lvR (L4 y)<=tgWv y+yY (L4 y);omega
  ·show tgWv y+Gv y-yY (X4 y)<=lvR (X4 y)/\lvR (X4 y)<=tgWv y+Gv y+yY (X4 y);omega
  ·show -(Gv y)-yY (O7 y)<=lvR (O7 y)/\lvR (O7 y) <= -(Gv y)+yY (O7 y);omega
 ·unfold tgA wr;rw[ZW (by omega) (by omega)];omega
 ·unfold tgB wr;rw[ZW (by omega) (by omega)];omega
theorem TgF.va{K:Int}{y:TgS}(h:TgF K y):VtOk (aG y)/\((aG y).d.lo<=Gv y/\Gv y<=(aG y).d.hi)/\(aG y).s.lo<=10/\10<=(aG y).s.hi:=by
 obtain⟨_,_,b1,_,_,b4,b5⟩:=Xf h.ok
 have hs:=h.st;have ha:=h.a;have hb:=h.b
 have e:aG y=⟨⟨Ny 0 (bA (Wb y)).lo,(bA (Wb y)).hi⟩,⟨tgA y,tgB y⟩⟩:=rfl
 rw[e]
 generalize bA (Wb y)=p at b1 b4 b5 ⊢
 generalize bB (Wb y)=p2 at *
 have m:=max0 b1.1 (by omega)
 refine⟨⟨m.1,?_,?_,?_,?_,?_⟩,⟨m.2.2,b1.2⟩,ha.2,hb.1⟩
 ·show Ny 0 p.lo<=p.hi;omega
 ·show p.hi<=400;omega
 ·show 0<=tgA y;omega
 ·show tgA y<=tgB y;omega
 ·show tgB y<=12;omega
theorem TgF.vb{K:Int}{y:TgS}(h:TgF K y):VtOk (Xd y)/\((Xd y).d.lo<=Gv y/\Gv y<=(Xd y).d.hi)/\(Xd y).s.lo<=10/\10<=(Xd y).s.hi:=by
 obtain⟨_,_,_,b1,b3,b4,b5⟩:=Xf h.ok
 have hs:=h.st;have ha:=h.a;have hb:=h.b
 have e:Xd y=⟨⟨Ny 0 (bB (Wb y)).lo,(bB (Wb y)).hi⟩,⟨tgA y,tgB y⟩⟩:=rfl
 rw[e]
 generalize bB (Wb y)=p at b1 b3 ⊢
 generalize bA (Wb y)=p2 at *
 have m:=max0 b1.1 (by omega)
 refine⟨⟨m.1,?_,?_,?_,?_,?_⟩,⟨m.2.2,b1.2⟩,ha.2,hb.1⟩
 ·show Ny 0 p.lo<=p.hi;omega
 ·show p.hi<=400;omega
 ·show 0<=tgA y;omega
 ·show tgA y<=tgB y;omega
 ·show tgB y<=12;omega
theorem BGR{v:Vt}{t:Int}(h:VtOk v)(ht:0<=t)(h1:v.d.lo<=t/\t<=v.d.hi)(h2:v.s.lo<=10/\10<=v.s.hi):0<=(flV v).lo/\(flV v).lo<=100*t/\100*t<=(flV v).hi/\(flV v).hi<=48000:=by
 rw[h.flow]
 obtain⟨p1,p2,p3⟩:=h.prod
 have a:=h.d0;have d:=h.s0
 have m1:10*v.d.lo*v.s.lo<=10*t*v.s.lo:=Int.mul_le_mul_of_nonneg_right (by omega) d
 have m2:10*t*v.s.lo<=10*t*10:=Int.mul_le_mul_of_nonneg_left h2.1 (by omega)
 have m3:10*t*10<=10*t*v.s.hi:=Int.mul_le_mul_of_nonneg_left h2.2 (by omega)
 have m4:10*t*v.s.hi<=10*v.d.hi*v.s.hi:=Int.mul_le_mul_of_nonneg_right (by omega) (by omega)
 exact⟨p1,by show 10*v.d.lo*v.s.lo<=100*t;omega,by show 100*t<=10*v.d.hi*v.s.hi;omega,p3⟩
structure GaOk(g:Gau):Prop where
 st:5<=g.st/\g.st<=300
 lo:0<=g.lo/\g.lo<=100*g.st
 hi:100*g.st<=g.hi/\g.hi<=48000
theorem BIM{s a b:Int}(h1:5<=s/\s<=300)(h2:0<=a/\a<=100*s/\100*s<=b/\b<=48000):GaOk ⟨s,a,b⟩:=⟨h1,⟨h2.1,h2.2.1⟩,h2.2.2⟩
theorem CML(y:TgS):(xX y).st=Gv y:=rfl
theorem CMJ(y:TgS):(K1 y).st=Gv y:=rfl
theorem CLC(y:TgS):(xX y).lo=(flV (aG y)).lo:=by simp only[xX]
theorem CNN(y:TgS):(K1 y).lo=(flV (Xd y)).lo:=by simp only[K1]
theorem COK(y:TgS):(xX y).hi=(flV (aG y)).hi:=by simp only[xX]
theorem COZ(y:TgS):(K1 y).hi=(flV (Xd y)).hi:=by simp only[K1]
theorem CSX(y:TgS):(aG y).d.lo=Ny 0 (bA (Wb y)).lo:=by simp only[aG]
theorem CTS(y:TgS):(aG y).d.hi=(bA (Wb y)).hi:=by simp only[aG]
theorem CRJ(y:TgS):(aG y).s.lo=tgA y:=by simp only[aG]
theorem CQZ(y:TgS):(aG y).s.hi=tgB y:=by simp only[aG]
theorem CTW(y:TgS):(Xd y).d.lo=Ny 0 (bB (Wb y)).lo:=by simp only[Xd]
theorem CTA(y:TgS):(Xd y).d.hi=(bB (Wb y)).hi:=by simp only[Xd]
theorem CSW(y:TgS):(Xd y).s.lo=tgA y:=by simp only[Xd]
theorem CTB(y:TgS):(Xd y).s.hi=tgB y:=by simp only[Xd]
theorem TgF.ga{K:Int}{y:TgS}(h:TgF K y):GaOk (xX y)/\GaOk (K1 y)/\(xX y).lo<=(K1 y).lo/\(K1 y).hi<=(xX y).hi:=by
 obtain⟨o1,a1,a2⟩:=h.va
 obtain⟨o2,b1,b2⟩:=h.vb
 have hs:=h.st
 have f1:=BGR o1 (by omega) a1 a2
 have f2:=BGR o2 (by omega) b1 b2
 refine⟨BIM hs f1,BIM hs f2,?_,?_⟩
 ·rw[CLC,CNN,o1.flow,o2.flow]
  obtain⟨_,_,_,_,b3,_,_⟩:=Xf h.ok
  have ha:=h.a
  have hm:Ny 0 (bA (Wb y)).lo<=Ny 0 (bB (Wb y)).lo:=by unfold Ny;split<;>split<;>omega
  rw[CSX,CRJ,CTW,CSW]
  exact Int.mul_le_mul_of_nonneg_right (by omega) (by omega)
 ·rw[COK,COZ,o1.flow,o2.flow]
  obtain⟨_,_,_,_,b3,_,_⟩:=Xf h.ok
  have ha:=h.b
  rw[CTS,CQZ,CTA,CTB]
  exact Int.mul_le_mul_of_nonneg_right (by omega) (by omega)
structure TgHx(x:TgI):Prop where
 n:∀i,i<x.n.length->0<=gD x.n i/\gD x.n i<=255
 e:∀i,i<x.e.length->0<=gD x.e i/\gD x.e i<=255
 m:∀i,i<x.m.length->0<=gD x.m i/\gD x.m i<=255
 w:0<=x.w/\x.w<=65535
theorem stm0{l:List Int}(h:∀i,i<l.length->0<=gD l i/\gD l i<=255):StmB 0 ⟨l,0,0⟩:=⟨⟨Int.le_refl _,Int.le_refl _⟩,⟨Int.le_refl _,by show (0:Int)<251;omega⟩,h⟩
theorem BBI{x:TgI}(h:TgHx x):1<=gG x/\gG x<=6:=ADE (stm0 h.n) (by omega) (by omega) (by omega) (by omega)
theorem ZQ{x:TgI}(h:TgHx x):∀k:Nat,k<=6->TgF (10*k+1) (MZ x k)
 |0,_=>TgF.of (by omega) (by have:=(stm0 h.n).next (by omega) (witN 1 6);exact this) ((stm0 h.e).mono (by omega)) ((stm0 h.m).mono (by omega))
 |k+1,hk=>by
  have f:=ZQ h k (by omega)
  exact TgF.of (by omega) (f.s2.mono (by omega)) (f.q6.mono (by omega)) (f.t2.mono (by omega))
theorem hP(x:TgI):∀k:Nat,(MZ x k).a.length=k/\(MZ x k).b.length=k
 |0=>⟨rfl,rfl⟩
 |k+1=>by
  obtain⟨h1,h2⟩:=hP x k
  exact⟨by show ((MZ x k).a ++ [xX (MZ x k)]).length=k+1;rw[List.length_append,h1];rfl,by show ((MZ x k).b ++ [K1 (MZ x k)]).length=k+1;rw[List.length_append,h2];rfl⟩
theorem BTX{x:TgI}(h:TgHx x):∀k:Nat,k<=6->(∀g∈(MZ x k).a,GaOk g)/\(∀g∈(MZ x k).b,GaOk g)/\Wid (MZ x k).b (MZ x k).a
 |0,_=>⟨λg hg=>(by cases hg),λg hg=>(by cases hg),rfl,λi hi=>(by cases hi)⟩
 |k+1,hk=>by
  obtain⟨h1,h2,h3⟩:=BTX h k (by omega)
  have f:=(ZQ h k (by omega)).ga
  obtain⟨l1,l2⟩:=hP x k
  refine⟨λg hg=>?_,λg hg=>?_,?_,λi hi=>?_⟩
  ·rcases List.mem_append.1 (show g∈(MZ x k).a ++ [xX (MZ x k)] from hg) with hg | hg
   ·exact h1 g hg
   ·rw[List.mem_singleton.1 hg];exact f.1
  ·rcases List.mem_append.1 (show g∈(MZ x k).b ++ [K1 (MZ x k)] from hg) with hg | hg
   ·exact h2 g hg
   ·rw[List.mem_singleton.1 hg];exact f.2.1
  ·rw[(hP x (k+1)).1,(hP x (k+1)).2]
  ·rw[(hP x (k+1)).2] at hi
   show (gD ((MZ x k).a ++ [xX (MZ x k)]) i).st=(gD ((MZ x k).b ++ [K1 (MZ x k)]) i).st/\(gD ((MZ x k).a ++ [xX (MZ x k)]) i).lo<=(gD ((MZ x k).b ++ [K1 (MZ x k)]) i).lo/\(gD ((MZ x k).b ++ [K1 (MZ x k)]) i).hi<=(gD ((MZ x k).a ++ [xX (MZ x k)]) i).hi
   rw[ARJ,ARJ,l1,l2]
   by_cases hk:i<k
   ·rw[decide_eq_true hk]
    exact h3.at_ i (by rw[l2];exact hk)
   ·rw[decide_eq_false hk,show i-k=0 by omega]
    exact⟨(CML _).trans (CMJ _).symm,f.2.2⟩
theorem GaOk.ok{g:Gau}(h:GaOk g):Ho g:=by
 have a:=h.st;have b:=h.lo;have c:=h.hi
 exact⟨by omega,by omega,by omega,by omega,by omega⟩
theorem AQF:PT chn:=⟨Int.le_refl _,by decide,by decide,Int.le_refl _,by decide,by decide⟩
theorem BIA(t:Int):(QJ chn).num t=100*t:=by show (0:Int)*(1-0)-(100-0)*0+(100-0)*t=_;omega
theorem AJP{l:List Gau}(h:∀g∈l,GaOk g):(QJ chn).passes l:=λg hg=>by
 have a:=h g hg
 have b:=a.lo;have c:=a.hi
 unfold Rl.pass
 rw[BIA]
 show g.lo*(1-0)<=100*g.st/\100*g.st<=g.hi*(1-0)
 omega
theorem BEQ{q:Rt}{b:Bnd}(h0:tN q)(h1:tN b.lo)(h2:tN b.hi)(h3:Nk b.lo q)(h4:Nk q b.hi):btM ⟨q,b⟩=true:=by
 have k:∀{u v:Rt},tN u->tN v->wr (u.n*v.d)=u.n*v.d:=λ{u v} hu hv=>by
  obtain⟨⟨u1,u2⟩,u3,u4⟩:=hu
  obtain⟨⟨v1,v2⟩,v3,v4⟩:=hv
  have m0:0<=u.n*v.d:=Int.mul_nonneg u3 (by omega)
  have m1:u.n*v.d<=400000000*v.d:=Int.mul_le_mul_of_nonneg_right (by omega) (by omega)
  exact ZW (by omega) (by omega)
 unfold btM
 rw[k h1 h0,k h0 h1,k h0 h2,k h2 h0]
 unfold Nk at h3 h4
 rw[decide_eq_true h0.1.1,decide_eq_true h1.1.1,decide_eq_true h2.1.1,decide_eq_true h3,decide_eq_true h4]
 rfl
structure TgR(g:List Gau)(t:Int):Prop where
 pe:yB ⟨g,⟨[],[chn]⟩⟩=0
 pm:sM ⟨g,⟨[],[chn]⟩⟩=[]
 fe:(ZL g).e=0
 fl:(ZL g).r.l.length=1
 we:Na ⟨g,[],t⟩=0
 bt:btM ⟨⟨wr (100*t),1⟩,TA ⟨g,[],t⟩⟩=true
 th:Thru g []
 lo:tN (TA ⟨g,[],t⟩).lo
 hi:tN (TA ⟨g,[],t⟩).hi
 le:Nk (TA ⟨g,[],t⟩).lo (TA ⟨g,[],t⟩).hi
theorem BSY{g:List Gau}(hl:1<=g.length/\g.length<=6)(h:∀x∈g,GaOk x){t:Int}(ht:0<=t/\t<=2000):TgR g t:=by
 have hc:IH g=0:=AGD (by omega) λx hx=>(h x hx).ok
 have hr:RtOk g ⟨[],[chn]⟩:=BYW hc AQF (AJP h)
 have hcan:∀i:Nat,i<=([]:List Int).length->Can (QD g [] i):=λi hi=>by
  have:i=0:=Nat.le_zero.1 hi
  subst this
  rw[AMN];exact⟨chn,AQF,AJP h⟩
 obtain⟨f1,f2,f3⟩:=BST hc hcan
 have hT:Thru g []:=hr.thru
 have hf:=hT.flow ht
 have hin:=hT.in (nJ [] t) ht
 rw[<-hf.2] at hin
 have ha:=hr.at ht
 have e:wr (100*t)=100*t:=ZW (by omega) (by omega)
 have hv:tN ⟨100*t,1⟩:=⟨⟨by show (0:Int)<1;omega,by show (1:Int)<=2000;omega⟩,by show 0<=100*t;omega,by show 100*t<=200000*1;omega⟩
 have hcl:Ae (QJ chn) t=⟨100*t,1⟩:=by
  unfold Ae
  rw[BIA,if_neg (by omega),if_neg (by show ¬ 200000*(1-0)<100*t;omega)];rfl
 have hp:(QJ chn).passes (QD g [] (Vs [] t)):=by
  have:=hr.pass (Vs [] t) (nJ [] t)
  exact λx hx=>AJP h x (Jz.1 hx).1
 have b1:=AGC (Vn (λx hx=>(h x hx).ok)) ht (KX AQF) hp
 have b2:=APV (Vn (λx hx=>(h x hx).ok)) ht (KX AQF) hp
 rw[hcl,<-hf.2] at b1 b2
 refine⟨hr.passes.1,hr.passes.2,f1,?_,hf.1,?_,hT,hin.1,hin.2.1,hin.2.2⟩
 ·rw[f2.lenl,Nat.le_zero.1 f3]
 ·rw[e];exact BEQ hv hin.1 hin.2.1 b1 b2
theorem BUK{a b c:Rt}(hb:tN b)(ha:tN a)(hc:tN c)(h1:Nk a b)(h2:Nk b c):Nk a c:=by
 unfold Nk at *
 have m1:=Int.mul_le_mul_of_nonneg_right h1 (show 0<=c.d by have:=hc.1.1;omega)
 have m2:=Int.mul_le_mul_of_nonneg_right h2 (show 0<=a.d by have:=ha.1.1;omega)
 have hd:=hb.1.1
 have:(a.n*c.d)*b.d<=(c.n*a.d)*b.d:=by grind
 exact Int.le_of_mul_le_mul_right this hd
theorem BKW{g w:List Gau}{t:Int}(hg:TgR g t)(hw:TgR w t)(h:Wid g w)(ho:∀x∈w,GaOk x)(ht:0<=t/\t<=2000):btM ⟨(TA ⟨g,[],t⟩).lo,TA ⟨w,[],t⟩⟩=true/\btM ⟨(TA ⟨g,[],t⟩).hi,TA ⟨w,[],t⟩⟩=true:=by
 obtain⟨a,b⟩:=BLY hg.th h (λx hx=>(ho x hx).ok) ht
 exact⟨BEQ hg.lo hw.lo hw.hi a (BUK hg.hi hg.lo hw.hi hg.le b),BEQ hg.hi hw.lo hw.hi (BUK hg.lo hw.lo hg.hi a hg.le) b⟩
end Go.Bal
