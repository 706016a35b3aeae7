/- Law TopGauged: what is drawn, measured and gauged (plain). -/
import Derived.Test.YtbmlgdlbffmjjaaGreatGaW
import Derived.Test.YtbmlgdlbffmjjaaGreatRT5
set_option linter.unusedVariables false
set_option linter.unusedSimpArgs false
namespace Go.Bal
open Go Go.Sym Go.Proofs
structure LvOk(K:Int)(x:LvS):Prop where
 e:0<=zO x/\zO x<=8
 r:gD x.h x.b.toNat-gD x.h x.a.toNat-zO x<=lvR x/\lvR x<=gD x.h x.b.toNat-gD x.h x.a.toNat+zO x
 s1:StmB (K+1) (lvS1 x)
 s2:StmB (K+2) (lvS x)
theorem BUC{K:Int}{x:LvS}(h:StmB K x.s)(hK:K<=1000)(h1:-1000<=gD x.h x.b.toNat/\gD x.h x.b.toNat<=1000)(h2:-1000<=gD x.h x.a.toNat/\gD x.h x.a.toNat<=1000):LvOk K x:=by
 have a:=G2 h (by omega) 9
 have ae:0<=zO x/\zO x<=8:=⟨a.1,by have:=a.2 (by omega);unfold zO;omega⟩
 have s1:StmB (K+1) (lvS1 x):=h.next (by omega) 9
 have en:wr (-(zO x))=-(zO x):=Ab (by omega) (by omega)
 have w:=ADN s1 (by omega) (lo:=-(zO x)) (hi:=zO x) (by omega) (by omega) (by omega)
 refine⟨ae,?_,s1,?_⟩
 ·unfold lvR
  rw[en]
  have e1:wr (gD x.h x.b.toNat-gD x.h x.a.toNat)=gD x.h x.b.toNat-gD x.h x.a.toNat:=Ab (by omega) (by omega)
  rw[e1]
  have e2:wr (gD x.h x.b.toNat-gD x.h x.a.toNat+witV (lvS1 x) (-(zO x)) (zO x))=gD x.h x.b.toNat-gD x.h x.a.toNat+witV (lvS1 x) (-(zO x)) (zO x):=Ab (by omega) (by omega)
  rw[e2];omega
 ·have:=s1.next (by omega) (witN (wr (-(zO x))) (zO x))
  have e:K+1+1=K+2:=by omega
  rw[e] at this;exact this
theorem max0{a t:Int}(h:a<=t)(ht:0<=t):0<=Rb 0 a/\a<=Rb 0 a/\Rb 0 a<=t:=by
 unfold Rb;split<;>omega
theorem BYA{a b c d:Int}(h1:0<=a)(h2:a<=b)(h3:0<=c)(h4:c<=d)(hb:b*d<=1000000000):tiV ⟨a,b⟩ ⟨c,d⟩=⟨a*c,b*d⟩:=by
 have m1:a*c<=a*d:=Int.mul_le_mul_of_nonneg_left h4 h1
 have m2:a*c<=b*c:=Int.mul_le_mul_of_nonneg_right h2 h3
 have m3:a*d<=b*d:=Int.mul_le_mul_of_nonneg_right h2 (by omega)
 have m4:b*c<=b*d:=Int.mul_le_mul_of_nonneg_left h4 (by omega)
 have m0:0<=a*c:=Int.mul_nonneg h1 h3
 have e1:wr (a*c)=a*c:=Ab (by omega) (by omega)
 have e2:wr (a*d)=a*d:=Ab (by omega) (by omega)
 have e3:wr (b*c)=b*c:=Ab (by omega) (by omega)
 have e4:wr (b*d)=b*d:=Ab (by omega) (by omega)
 unfold tiV
 simp only
 rw[e1,e2,e3,e4]
 unfold mi4 ma4 S4 Rb
 have f1:(if a*d<a*c then a*d else a*c)=a*c:=if_neg (by omega)
 have f2:(if b*c<a*c then b*c else a*c)=a*c:=if_neg (by omega)
 have f3:(if b*d<a*c then b*d else a*c)=a*c:=if_neg (by omega)
 rw[f1,f2,f3]
 congr 1
 split<;>split<;>split<;>omega
structure VtOk(v:Vt):Prop where
 d0:0<=v.d.lo
 d1:v.d.lo<=v.d.hi
 d2:v.d.hi<=400
 s0:0<=v.s.lo
 s1:v.s.lo<=v.s.hi
 s2:v.s.hi<=12
theorem VtOk.ok{v:Vt}(h:VtOk v):Rf v=true:=by
 have:=h.d0;have:=h.d1;have:=h.d2;have:=h.s0;have:=h.s1;have:=h.s2
 simp only[Rf,riV,MN,Bool.and_eq_true,decide_eq_true_eq]
 omega
theorem VtOk.prod{v:Vt}(h:VtOk v):0<=10*v.d.lo*v.s.lo/\10*v.d.lo*v.s.lo<=10*v.d.hi*v.s.hi/\10*v.d.hi*v.s.hi<=48000:=by
 have a:=h.d0;have b:=h.d1;have c:=h.d2;have d:=h.s0;have e:=h.s1;have f:=h.s2
 have m1:=Int.mul_nonneg (show 0<=10*v.d.lo by omega) d
 have m2:10*v.d.lo*v.s.lo<=10*v.d.hi*v.s.lo:=Int.mul_le_mul_of_nonneg_right (by omega) d
 have m3:10*v.d.hi*v.s.lo<=10*v.d.hi*v.s.hi:=Int.mul_le_mul_of_nonneg_left e (by omega)
 have m4:10*v.d.hi*v.s.hi<=10*v.d.hi*12:=Int.mul_le_mul_of_nonneg_left f (by omega)
 omega
theorem VtOk.flow{v:Vt}(h:VtOk v):flV v=⟨10*v.d.lo*v.s.lo,10*v.d.hi*v.s.hi⟩:=by
 have a:=h.d0;have b:=h.d1;have c:=h.d2;have d:=h.s0;have e:=h.s1;have f:=h.s2
 obtain⟨p1,p2,p3⟩:=h.prod
 have t1:tiV ⟨1,1⟩ ⟨10,10⟩=⟨10,10⟩:=by decide
 have t2:tiV ⟨10,10⟩ v.d=⟨10*v.d.lo,10*v.d.hi⟩:=BYA (by omega) (by omega) a b (by show 10*v.d.hi<=1000000000;omega)
 have t3:tiV ⟨10*v.d.lo,10*v.d.hi⟩ v.s=⟨10*v.d.lo*v.s.lo,10*v.d.hi*v.s.hi⟩:=BYA (by omega) (by omega) d e (by show 10*v.d.hi*v.s.hi<=1000000000;omega)
 unfold flV paV tmV plV
 simp only
 rw[t1,t2,t3]
 have e1:wr (0+10*v.d.lo*v.s.lo)=10*v.d.lo*v.s.lo:=by unfold wr;rw[Ab (by omega) (by omega)];omega
 have e2:wr (0+10*v.d.hi*v.s.hi)=10*v.d.hi*v.s.hi:=by unfold wr;rw[Ab (by omega) (by omega)];omega
 simp only[e1,e2]
structure TgF(K:Int)(y:TgS):Prop where
 s0:StmB K y.s
 s1:StmB (K+1) (tgS1 y)
 s2:StmB (K+2) (tgS2 y)
 q0:StmB K y.q
 q1:StmB (K+1) (lvS1 (G4 y))
 q2:StmB (K+2) (lvS (G4 y))
 q3:StmB (K+3) (lvS1 (Y2 y))
 q4:StmB (K+4) (tgQ2 y)
 q5:StmB (K+5) (tgQ3 y)
 q6:StmB (K+6) (tgQ4 y)
 t0:StmB K y.t
 t1:StmB (K+1) (lvS1 (O7 y))
 t2:StmB (K+2) (tgT1 y)
 st:5<=Hl y/\Hl y<=300
 ok:GpOk (Vv y) (tgWv y) (Hl y)
 a:8<=tgA y/\tgA y<=10
 b:10<=tgB y/\tgB y<=12
theorem TgF.of{K:Int}{y:TgS}(hK:K<=900)(hs:StmB K y.s)(hq:StmB K y.q)(ht:StmB K y.t):TgF K y:=by
 have a1:=ADN hs (by omega) (lo:=5) (hi:=300) (by omega) (by omega) (by omega)
 have s1:StmB (K+1) (tgS1 y):=hs.next (by omega) _
 have a2:=ADN s1 (by omega) (lo:=-50) (hi:=90) (by omega) (by omega) (by omega)
 have s2:StmB (K+2) (tgS2 y):=by
  have:=s1.next (by omega) (witN (-50) 90)
  rw[show K+1+1=K+2 by omega] at this;exact this
 have hw:-50<=tgWv y/\tgWv y<=90:=a2
 have hst:5<=Hl y/\Hl y<=300:=a1
 have hn:wr (-(Hl y))=-(Hl y):=Ab (by omega) (by omega)
 have h0:gD (tgH y) 0=0:=rfl
 have h1:gD (tgH y) 1=tgWv y:=rfl
 have h2:gD (tgH y) 2=-(Hl y):=hn
 have l0:LvOk K (G4 y):=BUC hq (by omega) (by show -1000<=gD (tgH y) 1/\gD (tgH y) 1<=1000;rw[h1];omega) (by show -1000<=gD (tgH y) 0/\gD (tgH y) 0<=1000;rw[h0];omega)
 have l1:LvOk (K+2) (Y2 y):=BUC l0.s2 (by omega) (by show -1000<=gD (tgH y) 1/\gD (tgH y) 1<=1000;rw[h1];omega) (by show -1000<=gD (tgH y) 2/\gD (tgH y) 2<=1000;rw[h2];omega)
 have l2:LvOk K (O7 y):=BUC ht (by omega) (by show -1000<=gD (tgH y) 2/\gD (tgH y) 2<=1000;rw[h2];omega) (by show -1000<=gD (tgH y) 0/\gD (tgH y) 0<=1000;rw[h0];omega)
 have q4:StmB (K+4) (tgQ2 y):=by have:=l1.s2;rw[show K+2+2=K+4 by omega] at this;exact this
 have q5:StmB (K+5) (tgQ3 y):=by have:=q4.next (by omega) 3;rw[show K+4+1=K+5 by omega] at this;exact this
 have q6:StmB (K+6) (tgQ4 y):=by have:=q5.next (by omega) 3;rw[show K+5+1=K+6 by omega] at this;exact this
 have v1:=G2 q4 (by omega) 3
 have v2:=G2 q5 (by omega) 3
 have v3:=v1.2 (by omega)
 have v4:=v2.2 (by omega)
 have r0:=l0.r;have r1:=l1.r;have r2:=l2.r
 rw[show gD (G4 y).h (G4 y).b.toNat=tgWv y from h1,show gD (G4 y).h (G4 y).a.toNat=0 from h0] at r0
 rw[show gD (Y2 y).h (Y2 y).b.toNat=tgWv y from h1,show gD (Y2 y).h (Y2 y).a.toNat=-(Hl y) from h2] at r1
 rw[show gD (O7 y).h (O7 y).b.toNat=-(Hl y) from h2,show gD (O7 y).h (O7 y).a.toNat=0 from h0] at r2
 have g0:=l0.e;have g1:=l1.e;have g2:=l2.e
 refine⟨hs,s1,s2,hq,l0.s1,l0.s2,?_,q4,q5,q6,ht,l2.s1,l2.s2,hst,?_,?_,?_⟩
 ·have:=l1.s1;rw[show K+2+1=K+3 by omega] at this;exact this
 ·refine⟨hw,hst,g0,g1,g2,?_,?_,?_⟩
  ·show tgWv y-zO (G4 y)<=lvR (G4 y)/\lvR (G4 y)<=tgWv y+zO (G4 y);omega
  ·show tgWv y+Hl y-zO (Y2 y)<=lvR (Y2 y)/\lvR (Y2 y)<=tgWv y+Hl y+zO (Y2 y);omega
  ·show -(Hl y)-zO (O7 y)<=lvR (O7 y)/\lvR (O7 y) <= -(Hl y)+zO (O7 y);omega
 ·unfold tgA wr;rw[Ab (by omega) (by omega)];omega
 ·unfold tgB wr;rw[Ab (by omega) (by omega)];omega
theorem TgF.va{K:Int}{y:TgS}(h:TgF K y):VtOk (Zo y)/\((Zo y).d.lo<=Hl y/\Hl y<=(Zo y).d.hi)/\(Zo y).s.lo<=10/\10<=(Zo y).s.hi:=by
 obtain⟨_,_,b1,_,_,b4,b5⟩:=Yw h.ok
 have hs:=h.st;have ha:=h.a;have hb:=h.b
 have e:Zo y=⟨⟨Rb 0 (bA (Vv y)).lo,(bA (Vv y)).hi⟩,⟨tgA y,tgB y⟩⟩:=rfl
 rw[e]
 generalize bA (Vv y)=p at b1 b4 b5 ⊢
 generalize bB (Vv y)=p2 at *
 have m:=max0 b1.1 (by omega)
 refine⟨⟨m.1,?_,?_,?_,?_,?_⟩,⟨m.2.2,b1.2⟩,ha.2,hb.1⟩
 ·show Rb 0 p.lo<=p.hi;omega
 ·show p.hi<=400;omega
 ·show 0<=tgA y;omega
 ·show tgA y<=tgB y;omega
 ·show tgB y<=12;omega
theorem TgF.vb{K:Int}{y:TgS}(h:TgF K y):VtOk (Zf y)/\((Zf y).d.lo<=Hl y/\Hl y<=(Zf y).d.hi)/\(Zf y).s.lo<=10/\10<=(Zf y).s.hi:=by
 obtain⟨_,_,_,b1,b3,b4,b5⟩:=Yw h.ok
 have hs:=h.st;have ha:=h.a;have hb:=h.b
 have e:Zf y=⟨⟨Rb 0 (bB (Vv y)).lo,(bB (Vv y)).hi⟩,⟨tgA y,tgB y⟩⟩:=rfl
 rw[e]
 generalize bB (Vv y)=p at b1 b3 ⊢
 generalize bA (Vv y)=p2 at *
 have m:=max0 b1.1 (by omega)
 refine⟨⟨m.1,?_,?_,?_,?_,?_⟩,⟨m.2.2,b1.2⟩,ha.2,hb.1⟩
 ·show Rb 0 p.lo<=p.hi;omega
 ·show p.hi<=400;omega
 ·show 0<=tgA y;omega
 ·show tgA y<=tgB y;omega
 ·show tgB y<=12;omega
theorem BIX{v:Vt}{t:Int}(h:VtOk v)(ht:0<=t)(h1:v.d.lo<=t/\t<=v.d.hi)(h2:v.s.lo<=10/\10<=v.s.hi):0<=(flV v).lo/\(flV v).lo<=100*t/\100*t<=(flV v).hi/\(flV v).hi<=48000:=by
 rw[h.flow]
 obtain⟨p1,p2,p3⟩:=h.prod
 have a:=h.d0;have d:=h.s0
 have m1:10*v.d.lo*v.s.lo<=10*t*v.s.lo:=Int.mul_le_mul_of_nonneg_right (by omega) d
 have m2:10*t*v.s.lo<=10*t*10:=Int.mul_le_mul_of_nonneg_left h2.1 (by omega)
 have m3:10*t*10<=10*t*v.s.hi:=Int.mul_le_mul_of_nonneg_left h2.2 (by omega)
 have m4:10*t*v.s.hi<=10*v.d.hi*v.s.hi:=Int.mul_le_mul_of_nonneg_right (by omega) (by omega)
 exact⟨p1,by show 10*v.d.lo*v.s.lo<=100*t;omega,by show 100*t<=10*v.d.hi*v.s.hi;omega,p3⟩
structure GaOk(g:Gau):Prop where
 st:5<=g.st/\g.st<=300
 lo:0<=g.lo/\g.lo<=100*g.st
 hi:100*g.st<=g.hi/\g.hi<=48000
theorem BGS{s a b:Int}(h1:5<=s/\s<=300)(h2:0<=a/\a<=100*s/\100*s<=b/\b<=48000):GaOk ⟨s,a,b⟩:=⟨h1,⟨h2.1,h2.2.1⟩,h2.2.2⟩
theorem CNV(y:TgS):(xU y).st=Hl y:=rfl
theorem COA(y:TgS):(K0 y).st=Hl y:=rfl
theorem COL(y:TgS):(xU y).lo=(flV (Zo y)).lo:=by simp only[xU]
theorem CNN(y:TgS):(K0 y).lo=(flV (Zf y)).lo:=by simp only[K0]
theorem CNU(y:TgS):(xU y).hi=(flV (Zo y)).hi:=by simp only[xU]
theorem COT(y:TgS):(K0 y).hi=(flV (Zf y)).hi:=by simp only[K0]
theorem CSV(y:TgS):(Zo y).d.lo=Rb 0 (bA (Vv y)).lo:=by simp only[Zo]
theorem CQZ(y:TgS):(Zo y).d.hi=(bA (Vv y)).hi:=by simp only[Zo]
theorem CSU(y:TgS):(Zo y).s.lo=tgA y:=by simp only[Zo]
theorem CQE(y:TgS):(Zo y).s.hi=tgB y:=by simp only[Zo]
theorem CSQ(y:TgS):(Zf y).d.lo=Rb 0 (bB (Vv y)).lo:=by simp only[Zf]
theorem CQA(y:TgS):(Zf y).d.hi=(bB (Vv y)).hi:=by simp only[Zf]
theorem CRC(y:TgS):(Zf y).s.lo=tgA y:=by simp only[Zf]
theorem CSL(y:TgS):(Zf y).s.hi=tgB y:=by simp only[Zf]
theorem TgF.ga{K:Int}{y:TgS}(h:TgF K y):GaOk (xU y)/\GaOk (K0 y)/\(xU y).lo<=(K0 y).lo/\(K0 y).hi<=(xU y).hi:=by
 obtain⟨o1,a1,a2⟩:=h.va
 obtain⟨o2,b1,b2⟩:=h.vb
 have hs:=h.st
 have f1:=BIX o1 (by omega) a1 a2
 have f2:=BIX o2 (by omega) b1 b2
 refine⟨BGS hs f1,BGS hs f2,?_,?_⟩
 ·rw[COL,CNN,o1.flow,o2.flow]
  obtain⟨_,_,_,_,b3,_,_⟩:=Yw h.ok
  have ha:=h.a
  have hm:Rb 0 (bA (Vv y)).lo<=Rb 0 (bB (Vv y)).lo:=by unfold Rb;split<;>split<;>omega
  rw[CSV,CSU,CSQ,CRC]
  exact Int.mul_le_mul_of_nonneg_right (by omega) (by omega)
 ·rw[CNU,COT,o1.flow,o2.flow]
  obtain⟨_,_,_,_,b3,_,_⟩:=Yw h.ok
  have ha:=h.b
  rw[CQZ,CQE,CQA,CSL]
  exact Int.mul_le_mul_of_nonneg_right (by omega) (by omega)
structure TgHx(x:TgI):Prop where
 n:∀i,i<x.n.length->0<=gD x.n i/\gD x.n i<=255
 e:∀i,i<x.e.length->0<=gD x.e i/\gD x.e i<=255
 m:∀i,i<x.m.length->0<=gD x.m i/\gD x.m i<=255
 w:0<=x.w/\x.w<=65535
theorem stm0{l:List Int}(h:∀i,i<l.length->0<=gD l i/\gD l i<=255):StmB 0 ⟨l,0,0⟩:=⟨⟨Int.le_refl _,Int.le_refl _⟩,⟨Int.le_refl _,by show (0:Int)<251;omega⟩,h⟩
theorem AZT{x:TgI}(h:TgHx x):1<=gG x/\gG x<=6:=ADN (stm0 h.n) (by omega) (by omega) (by omega) (by omega)
theorem ZS{x:TgI}(h:TgHx x):∀k:Nat,k<=6->TgF (10*k+1) (MZ x k)
 |0,_=>TgF.of (by omega) (by have:=(stm0 h.n).next (by omega) (witN 1 6);exact this) ((stm0 h.e).mono (by omega)) ((stm0 h.m).mono (by omega))
 |k+1,hk=>by
  have f:=ZS h k (by omega)
  exact TgF.of (by omega) (f.s2.mono (by omega)) (f.q6.mono (by omega)) (f.t2.mono (by omega))
theorem hZ(x:TgI):∀k:Nat,(MZ x k).a.length=k/\(MZ x k).b.length=k
 |0=>⟨rfl,rfl⟩
 |k+1=>by
  obtain⟨h1,h2⟩:=hZ x k
  exact⟨by show ((MZ x k).a ++ [xU (MZ x k)]).length=k+1;rw[List.length_append,h1];rfl,by show ((MZ x k).b ++ [K0 (MZ x k)]).length=k+1;rw[List.length_append,h2];rfl⟩
theorem BTP{x:TgI}(h:TgHx x):∀k:Nat,k<=6->(∀g∈(MZ x k).a,GaOk g)/\(∀g∈(MZ x k).b,GaOk g)/\Wid (MZ x k).b (MZ x k).a
 |0,_=>⟨λg hg=>(by cases hg),λg hg=>(by cases hg),rfl,λi hi=>(by cases hi)⟩
 |k+1,hk=>by
  obtain⟨h1,h2,h3⟩:=BTP h k (by omega)
  have f:=(ZS h k (by omega)).ga
  obtain⟨l1,l2⟩:=hZ x k
  refine⟨λg hg=>?_,λg hg=>?_,?_,λi hi=>?_⟩
  ·rcases List.mem_append.1 (show g∈(MZ x k).a ++ [xU (MZ x k)] from hg) with hg | hg
   ·exact h1 g hg
   ·rw[List.mem_singleton.1 hg];exact f.1
  ·rcases List.mem_append.1 (show g∈(MZ x k).b ++ [K0 (MZ x k)] from hg) with hg | hg
   ·exact h2 g hg
   ·rw[List.mem_singleton.1 hg];exact f.2.1
  ·rw[(hZ x (k+1)).1,(hZ x (k+1)).2]
  ·rw[(hZ x (k+1)).2] at hi
   show (gD ((MZ x k).a ++ [xU (MZ x k)]) i).st=(gD ((MZ x k).b ++ [K0 (MZ x k)]) i).st/\(gD ((MZ x k).a ++ [xU (MZ x k)]) i).lo<=(gD ((MZ x k).b ++ [K0 (MZ x k)]) i).lo/\(gD ((MZ x k).b ++ [K0 (MZ x k)]) i).hi<=(gD ((MZ x k).a ++ [xU (MZ x k)]) i).hi
   rw[AUP,AUP,l1,l2]
   by_cases hk:i<k
   ·rw[decide_eq_true hk]
    exact h3.at_ i (by rw[l2];exact hk)
   ·rw[decide_eq_false hk,show i-k=0 by omega]
    exact⟨(CNV _).trans (COA _).symm,f.2.2⟩
theorem GaOk.ok{g:Gau}(h:GaOk g):Ht g:=by
 have a:=h.st;have b:=h.lo;have c:=h.hi
 exact⟨by omega,by omega,by omega,by omega,by omega⟩
theorem ARB:PO chn:=⟨Int.le_refl _,by decide,by decide,Int.le_refl _,by decide,by decide⟩
theorem BIW(t:Int):(QQ chn).num t=100*t:=by show (0:Int)*(1-0)-(100-0)*0+(100-0)*t=_;omega
theorem AFP{l:List Gau}(h:∀g∈l,GaOk g):(QQ chn).passes l:=λg hg=>by
 have a:=h g hg
 have b:=a.lo;have c:=a.hi
 unfold Rl.pass
 rw[BIW]
 show g.lo*(1-0)<=100*g.st/\100*g.st<=g.hi*(1-0)
 omega
theorem BBM{q:Rt}{b:Bnd}(h0:uM q)(h1:uM b.lo)(h2:uM b.hi)(h3:Nk b.lo q)(h4:Nk q b.hi):btM ⟨q,b⟩=true:=by
 have k:∀{u v:Rt},uM u->uM v->wr (u.n*v.d)=u.n*v.d:=λ{u v} hu hv=>by
  obtain⟨⟨u1,u2⟩,u3,u4⟩:=hu
  obtain⟨⟨v1,v2⟩,v3,v4⟩:=hv
  have m0:0<=u.n*v.d:=Int.mul_nonneg u3 (by omega)
  have m1:u.n*v.d<=400000000*v.d:=Int.mul_le_mul_of_nonneg_right (by omega) (by omega)
  exact Ab (by omega) (by omega)
 unfold btM
 rw[k h1 h0,k h0 h1,k h0 h2,k h2 h0]
 unfold Nk at h3 h4
 rw[decide_eq_true h0.1.1,decide_eq_true h1.1.1,decide_eq_true h2.1.1,decide_eq_true h3,decide_eq_true h4]
 rfl
structure TgR(g:List Gau)(t:Int):Prop where
 pe:xW ⟨g,⟨[],[chn]⟩⟩=0
 pm:sH ⟨g,⟨[],[chn]⟩⟩=[]
 fe:(ZK g).e=0
 fl:(ZK g).r.l.length=1
 we:Mw ⟨g,[],t⟩=0
 bt:btM ⟨⟨wr (100*t),1⟩,SZ ⟨g,[],t⟩⟩=true
 th:Thru g []
 lo:uM (SZ ⟨g,[],t⟩).lo
 hi:uM (SZ ⟨g,[],t⟩).hi
 le:Nk (SZ ⟨g,[],t⟩).lo (SZ ⟨g,[],t⟩).hi
theorem BWB{g:List Gau}(hl:1<=g.length/\g.length<=6)(h:∀x∈g,GaOk x){t:Int}(ht:0<=t/\t<=2000):TgR g t:=by
 have hc:IH g=0:=AKO (by omega) λx hx=>(h x hx).ok
 have hr:RtOk g ⟨[],[chn]⟩:=BTA hc ARB (AFP h)
 have hcan:∀i:Nat,i<=([]:List Int).length->Can (PW g [] i):=λi hi=>by
  have:i=0:=Nat.le_zero.1 hi
  subst this
  rw[AMU];exact⟨chn,ARB,AFP h⟩
 obtain⟨f1,f2,f3⟩:=BOZ hc hcan
 have hT:Thru g []:=hr.thru
 have hf:=hT.flow ht
 have hin:=hT.in (pP [] t) ht
 rw[<-hf.2] at hin
 have ha:=hr.at ht
 have e:wr (100*t)=100*t:=Ab (by omega) (by omega)
 have hv:uM ⟨100*t,1⟩:=⟨⟨by show (0:Int)<1;omega,by show (1:Int)<=2000;omega⟩,by show 0<=100*t;omega,by show 100*t<=200000*1;omega⟩
 have hcl:ZR (QQ chn) t=⟨100*t,1⟩:=by
  unfold ZR
  rw[BIW,if_neg (by omega),if_neg (by show ¬ 200000*(1-0)<100*t;omega)];rfl
 have hp:(QQ chn).passes (PW g [] (Vx [] t)):=by
  have:=hr.pass (Vx [] t) (pP [] t)
  exact λx hx=>AFP h x (Kl.1 hx).1
 have b1:=AFL (Vo (λx hx=>(h x hx).ok)) ht (LD ARB) hp
 have b2:=AQO (Vo (λx hx=>(h x hx).ok)) ht (LD ARB) hp
 rw[hcl,<-hf.2] at b1 b2
 refine⟨hr.passes.1,hr.passes.2,f1,?_,hf.1,?_,hT,hin.1,hin.2.1,hin.2.2⟩
 ·rw[f2.lenl,Nat.le_zero.1 f3]
 ·rw[e];exact BBM hv hin.1 hin.2.1 b1 b2
theorem BXO{a b c:Rt}(hb:uM b)(ha:uM a)(hc:uM c)(h1:Nk a b)(h2:Nk b c):Nk a c:=by
 unfold Nk at *
 have m1:=Int.mul_le_mul_of_nonneg_right h1 (show 0<=c.d by have:=hc.1.1;omega)
 have m2:=Int.mul_le_mul_of_nonneg_right h2 (show 0<=a.d by have:=ha.1.1;omega)
 have hd:=hb.1.1
 have:(a.n*c.d)*b.d<=(c.n*a.d)*b.d:=by grind
 exact Int.le_of_mul_le_mul_right this hd
theorem BKF{g w:List Gau}{t:Int}(hg:TgR g t)(hw:TgR w t)(h:Wid g w)(ho:∀x∈w,GaOk x)(ht:0<=t/\t<=2000):btM ⟨(SZ ⟨g,[],t⟩).lo,SZ ⟨w,[],t⟩⟩=true/\btM ⟨(SZ ⟨g,[],t⟩).hi,SZ ⟨w,[],t⟩⟩=true:=by
 obtain⟨a,b⟩:=BMM hg.th h (λx hx=>(ho x hx).ok) ht
 exact⟨BBM hg.lo hw.lo hw.hi a (BXO hg.hi hg.lo hw.hi hg.le b),BBM hg.hi hw.lo hw.hi (BXO hg.lo hw.lo hg.hi a hg.le) b⟩
end Go.Bal
