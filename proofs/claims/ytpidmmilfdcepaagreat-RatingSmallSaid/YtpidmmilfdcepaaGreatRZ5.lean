/- Package rating: the ends of bounds by pairs of gaugings (no program in sight). -/
import Derived.Test.YtpidmmilfdcepaaGreatRZ1
set_option linter.unusedVariables false
set_option linter.unusedSimpArgs false
namespace Go.Bal
open Go Go.Sym Go.Proofs
def zI(r:Rt):Rl:=⟨r.n,0,r.d⟩
theorem Vi(r:Rt)(t:Int):(zI r).num t=r.n:=by unfold zI Rl.num;simp
theorem BRE{s:List Gau}(h:Can s){a b:Gau}(ha:a∈s)(hb:b∈s):∃f:Rl,f.ok/\f.pass a/\f.pass b:=by
 obtain⟨x,h1,h2⟩:=h
 exact⟨HM x,EM h1,h2 a ha,h2 b hb⟩
theorem Two.of{s:List Gau}(h:Can s){a b:Gau}(ha:a∈s)(hb:b∈s)(hst:a.st<b.st):Two a b:=by
 obtain⟨h1,h2,h3⟩:=(BDQ hst).2 (BRE h ha hb)
 exact⟨hst,h1,h2,h3⟩
theorem BOY{s:List Gau}(h:Can s){a b:Gau}(ha:a∈s)(hb:b∈s)(e:a.st=b.st):max a.lo b.lo<=min a.hi b.hi:=by
 obtain⟨f,hf,h1,h2⟩:=BRE h ha hb
 exact AKM hf ((Km e hf).2 ⟨h1,h2⟩)
theorem Vw{v:Int}{g:Gau}(h:g.lo<=v/\v<=g.hi):(Rl.mk v 0 1).ok/\(Rl.mk v 0 1).pass g:=
 ⟨⟨Int.one_pos,Int.le_refl _⟩,by unfold Rl.pass Rl.num;simp only[Int.zero_mul,Int.mul_one,Int.add_zero];exact h⟩
theorem ABJ(v t:Int):(Rl.mk v 0 1).num t=v:=by unfold Rl.num;simp
structure LoE(s:List Gau)(t:Int)(r:Rt):Prop where
 d:0<r.d
 z:0<=r.n
 one:∀g∈s,g.st<=t->g.lo*r.d<=r.n
 two:∀a∈s,∀b∈s,a.st<b.st->(sZ a b t).num t*r.d<=r.n*(sZ a b t).w
 is:r.n=0∨(∃g∈s,g.st<=t/\g.lo*r.d=r.n)∨∃a∈s,∃b∈s,a.st<b.st/\(sZ a b t).num t*r.d=r.n*(sZ a b t).w
structure HiE(s:List Gau)(t:Int)(r:Rt):Prop where
 d:0<r.d
 z:r.n<=200000*r.d
 one:∀g∈s,t<=g.st->r.n<=g.hi*r.d
 two:∀a∈s,∀b∈s,a.st<b.st->r.n*(tA a b t).w<=(tA a b t).num t*r.d
 is:r.n=200000*r.d∨(∃g∈s,t<=g.st/\r.n=g.hi*r.d)∨∃a∈s,∃b∈s,a.st<b.st/\r.n*(tA a b t).w=(tA a b t).num t*r.d
theorem CDO{f:Rl}{t:Int}(h:0<f.w){r:Rt}(hd:0<r.d)(hz:r.n=0):XE (FG (zI r) t) (FG f t):=by
 have e:FG (zI r) t=⟨0,r.d⟩:=by
  unfold FG
  rw[Vi,hz,if_neg (by omega),show (zI r).w=r.d from rfl,if_neg (show ¬200000*r.d<0 by omega)]
 rw[e]
 have hp:0<=(FG f t).n:=by
  unfold FG;split
  ·exact Int.le_refl _
  ·split
   ·show (0:Int)<=200000;omega
   ·show 0<=f.num t;omega
 show 0*(FG f t).d<=(FG f t).n*r.d
 rw[Int.zero_mul];exact Int.mul_nonneg hp (Int.le_of_lt hd)
theorem CDS{f:Rl}{t:Int}(h:0<f.w){r:Rt}(hd:0<r.d)(hz:r.n=200000*r.d):XE (FG f t) (FG (zI r) t):=by
 have e:FG (zI r) t=⟨200000*r.d,r.d⟩:=by
  unfold FG
  rw[Vi,hz,if_neg (by omega),show (zI r).w=r.d from rfl,if_neg (show ¬200000*r.d<200000*r.d by omega)]
 rw[e]
 have hp:(FG f t).n<=200000*(FG f t).d:=by
  unfold FG;split
  ·show (0:Int)<=200000*1;omega
  ·split
   ·show (200000:Int)<=200000*1;omega
   ·show f.num t<=200000*f.w;omega
 show (FG f t).n*r.d<=200000*r.d*(FG f t).d
 have:=Int.mul_le_mul_of_nonneg_right hp (Int.le_of_lt hd)
 have e2:200000*r.d*(FG f t).d=200000*(FG f t).d*r.d:=by grind
 omega
theorem CUN{s:List Gau}{t:Int}(hs:∀g∈s,IT g)(ht:0<=t/\t<=2000)(hc:Can s){r:Rt}(E:LoE s t r):XE (RP s t).lo (FG (zI r) t)/\XE (FG (zI r) t) (RP s t).lo:=by
 obtain⟨x0,hx0,px0⟩:=hc
 have hne:PX s t≠[]:=nH hs ht (EM hx0) px0
 have hc:Can s:=⟨x0,hx0,px0⟩
 have hin:=(K2 hs ht hne).1.1.1
 constructor
 ·have key:∀a b,a∈s->b∈s->a.st<b.st->∃x:Rl,x.ok/\x.pass a/\x.pass b/\leA t r.n r.d x:=λa b ha hb h=>by
   obtain⟨k1,k2,k3⟩:=AKA (Two.of hc ha hb h) t
   exact⟨_,k1,k2,k3,E.two a ha b hb h⟩
  obtain⟨f,f1,f2,f3⟩:=AFX (s:=s) (CXM t r.n r.d) (λa b c ha hb hcc=>⟨HM x0,EM hx0,px0 a ha,px0 b hb,px0 c hcc⟩) (λa b ha hb=>by
   rcases Int.lt_trichotomy a.st b.st with q | q | q
   ·exact key a b ha hb q
   ·have hm:=BOY hc ha hb q
    have z0:=(hs a ha).2.2.1
    by_cases c1:a.st<=t
    ·refine⟨⟨max a.lo b.lo,0,1⟩,(Vw (g:=a) (by omega)).1,(Vw (g:=a) (by omega)).2,(Vw (g:=b) (by omega)).2,?_⟩
     unfold leA
     rw[ABJ]
     show max a.lo b.lo*r.d<=r.n*1
     have e1:=E.one a ha c1
     have e2:=E.one b hb (by omega)
     rcases Int.le_total a.lo b.lo with w | w
     ·rw[Int.max_eq_right w];omega
     ·rw[Int.max_eq_left w];omega
    ·have hv:(0:Int)<=max a.lo b.lo:=by omega
     have hp:∀g:Gau,g.st=a.st->g.lo<=max a.lo b.lo/\max a.lo b.lo<=g.hi->(pt2 t 0 a.st (max a.lo b.lo)).pass g:=λg hg hh=>by
      unfold Rl.pass
      rw[hg,CCR]
      show g.lo*(a.st-t)<=_/\_<=g.hi*(a.st-t)
      exact⟨Int.mul_le_mul_of_nonneg_right hh.1 (by omega),Int.mul_le_mul_of_nonneg_right hh.2 (by omega)⟩
     refine⟨pt2 t 0 a.st (max a.lo b.lo),AZS (by omega) hv,hp a rfl (by omega),hp b q.symm (by omega),?_⟩
     unfold leA
     rw[BWZ]
     show 0*(a.st-t)*r.d<=r.n*(a.st-t)
     rw[Int.zero_mul,Int.zero_mul]
     exact Int.mul_nonneg E.z (by omega)
   ·obtain⟨x,x1,x2,x3,x4⟩:=key b a hb ha q
    exact⟨x,x1,x3,x2,x4⟩) ⟨⟨0,0,1⟩,⟨Int.one_pos,Int.le_refl _⟩,by unfold leA;rw[ABJ];show 0*r.d<=r.n*1;rw[Int.zero_mul,Int.mul_one];exact E.z⟩
  have l1:=APY hs ht f1 f2
  refine IQ (Int.le_of_lt hin) (OF f1.1) (Int.le_of_lt (OF (f:=zI r) E.d)) l1 (By f1.1 E.d ?_)
  rw[Vi]
  exact f3
 ·obtain⟨⟨y,oy,py,ey⟩,_⟩:=Ay hs hne
  rw[ey,A7 oy (OF (f:=zI r) E.d)]
  have hf:=EM oy
  rcases E.is with h | ⟨g,hg,h1,h2⟩ | ⟨a,ha,b,hb,h1,h2⟩
  ·exact CDO hf.1 E.d h
  ·refine By E.d hf.1 ?_
   rw[Vi]
   show r.n*(HM y).w<=(HM y).num t*r.d
   have p1:=(py g hg).1
   have p2:=iN hf h1
   have:=Int.mul_le_mul_of_nonneg_right (show g.lo*(HM y).w<=(HM y).num t by omega) (Int.le_of_lt E.d)
   have e:r.n*(HM y).w=g.lo*(HM y).w*r.d:=by rw[<-h2];grind
   omega
  ·refine By E.d hf.1 ?_
   rw[Vi]
   show r.n*(HM y).w<=(HM y).num t*r.d
   have T:=Two.of hc ha hb h1
   have hl:=BEE T t hf (py a ha) (py b hb)
   have hw:0<(sZ a b t).w:=(AKA T t).1.1
   refine Int.le_of_mul_le_mul_right (?_:_*(sZ a b t).w<=_*(sZ a b t).w) hw
   have:=Int.mul_le_mul_of_nonneg_right hl (Int.le_of_lt E.d)
   have e1:r.n*(HM y).w*(sZ a b t).w=(sZ a b t).num t*(HM y).w*r.d:=by
    have:r.n*(HM y).w*(sZ a b t).w=r.n*(sZ a b t).w*(HM y).w:=by grind
    rw[this,<-h2];grind
   have e2:(HM y).num t*r.d*(sZ a b t).w=(HM y).num t*(sZ a b t).w*r.d:=by grind
   omega
theorem CTO{s:List Gau}{t:Int}(hs:∀g∈s,IT g)(ht:0<=t/\t<=2000)(hc:Can s){r:Rt}(E:HiE s t r):XE (FG (zI r) t) (RP s t).hi/\XE (RP s t).hi (FG (zI r) t):=by
 obtain⟨x0,hx0,px0⟩:=hc
 have hne:PX s t≠[]:=nH hs ht (EM hx0) px0
 have hc:Can s:=⟨x0,hx0,px0⟩
 have hin:=(K2 hs ht hne).2.1.1.1
 constructor
 ·have key:∀a b,a∈s->b∈s->a.st<b.st->∃x:Rl,x.ok/\x.pass a/\x.pass b/\geA t r.n r.d x:=λa b ha hb h=>by
   obtain⟨k1,k2,k3⟩:=AVS (Two.of hc ha hb h) t
   exact⟨_,k1,k2,k3,E.two a ha b hb h⟩
  obtain⟨f,f1,f2,f3⟩:=AFX (s:=s) (DBS t r.n r.d) (λa b c ha hb hcc=>⟨HM x0,EM hx0,px0 a ha,px0 b hb,px0 c hcc⟩) (λa b ha hb=>by
   rcases Int.lt_trichotomy a.st b.st with q | q | q
   ·exact key a b ha hb q
   ·have hm:=BOY hc ha hb q
    have z0:=(hs a ha).2.2.2.2
    by_cases c1:t<=a.st
    ·refine⟨⟨min a.hi b.hi,0,1⟩,(Vw (g:=a) (by omega)).1,(Vw (g:=a) (by omega)).2,(Vw (g:=b) (by omega)).2,?_⟩
     unfold geA
     rw[ABJ]
     show r.n*1<=min a.hi b.hi*r.d
     have e1:=E.one a ha c1
     have e2:=E.one b hb (by omega)
     rcases Int.le_total a.hi b.hi with w | w
     ·rw[Int.min_eq_left w];omega
     ·rw[Int.min_eq_right w];omega
    ·have hv:max a.lo b.lo<=200000:=by omega
     have hp:∀g:Gau,g.st=a.st->g.lo<=max a.lo b.lo/\max a.lo b.lo<=g.hi->(pt2 a.st (max a.lo b.lo) t 200000).pass g:=λg hg hh=>by
      unfold Rl.pass
      rw[hg,BWZ]
      show g.lo*(t-a.st)<=_/\_<=g.hi*(t-a.st)
      exact⟨Int.mul_le_mul_of_nonneg_right hh.1 (by omega),Int.mul_le_mul_of_nonneg_right hh.2 (by omega)⟩
     refine⟨pt2 a.st (max a.lo b.lo) t 200000,AZS (by omega) hv,hp a rfl (by omega),hp b q.symm (by omega),?_⟩
     unfold geA
     rw[CCR]
     show r.n*(t-a.st)<=200000*(t-a.st)*r.d
     have:=Int.mul_le_mul_of_nonneg_right E.z (show 0<=t-a.st by omega)
     have e:200000*(t-a.st)*r.d=200000*r.d*(t-a.st):=by grind
     omega
   ·obtain⟨x,x1,x2,x3,x4⟩:=key b a hb ha q
    exact⟨x,x1,x3,x2,x4⟩) ⟨⟨200000,0,1⟩,⟨Int.one_pos,Int.le_refl _⟩,by unfold geA;rw[ABJ];show r.n*1<=200000*r.d;rw[Int.mul_one];exact E.z⟩
  have l1:=AYT hs ht f1 f2
  refine IQ (Int.le_of_lt (OF (f:=zI r) E.d)) (OF f1.1) (Int.le_of_lt hin) (By E.d f1.1 ?_) l1
  rw[Vi]
  exact f3
 ·obtain⟨_,y,oy,py,ey⟩:=Ay hs hne
  rw[ey,AAP oy (OF (f:=zI r) E.d)]
  have hf:=EM oy
  rcases E.is with h | ⟨g,hg,h1,h2⟩ | ⟨a,ha,b,hb,h1,h2⟩
  ·exact CDS hf.1 E.d h
  ·refine By hf.1 E.d ?_
   rw[Vi]
   show (HM y).num t*r.d<=r.n*(HM y).w
   have p1:=(py g hg).2
   have p2:=iN hf h1
   have:=Int.mul_le_mul_of_nonneg_right (show (HM y).num t<=g.hi*(HM y).w by omega) (Int.le_of_lt E.d)
   have e:r.n*(HM y).w=g.hi*(HM y).w*r.d:=by rw[h2];grind
   omega
  ·refine By hf.1 E.d ?_
   rw[Vi]
   show (HM y).num t*r.d<=r.n*(HM y).w
   have T:=Two.of hc ha hb h1
   have hl:=BON T t hf (py a ha) (py b hb)
   have hw:0<(tA a b t).w:=(AVS T t).1.1
   refine Int.le_of_mul_le_mul_right (?_:_*(tA a b t).w<=_*(tA a b t).w) hw
   have:=Int.mul_le_mul_of_nonneg_right hl (Int.le_of_lt E.d)
   have e1:r.n*(HM y).w*(tA a b t).w=(tA a b t).num t*(HM y).w*r.d:=by
    have:r.n*(HM y).w*(tA a b t).w=r.n*(tA a b t).w*(HM y).w:=by grind
    rw[this,h2];grind
   have e2:(HM y).num t*r.d*(tA a b t).w=(HM y).num t*(tA a b t).w*r.d:=by grind
   omega
def nM(s:List Gau):Prop:=∀i j,i<=j->j<s.length->(gD s i).st<=(gD s j).st
theorem CKI{s:List Gau}(ho:∀g∈s,IT g)(ha:nM s)(h:∀i k m,i<=k->k<=m->m<s.length->Vh (gD s i) (gD s k) (gD s m)=true):Can s:=by
 have o:∀i,i<s.length->(gD s i).lo<=(gD s i).hi:=λi hi=>(ho _ (BU hi)).2.2.2.1
 have t:∀i k m,i<=k->k<=m->m<s.length->∃f:Rl,f.ok/\f.pass (gD s i)/\f.pass (gD s k)/\f.pass (gD s m):=λi k m h1 h2 h3=>
  (APW (o i (by omega)) (o k (by omega)) (o m h3) (ha i k h1 (by omega)) (ha k m h2 h3)).1 (h i k m h1 h2 h3)
 obtain⟨x,h1,h2,_⟩:=AFX (s:=s) (A:=λ_=>True) (λ_ _ _ _ _ _ _ _ _ _ _ _ _=>trivial) (λa b c ha hb hc=>by
  obtain⟨i,hi,rfl⟩:=JP ha
  obtain⟨k,hk,rfl⟩:=JP hb
  obtain⟨m,hm,rfl⟩:=JP hc
  rcases Nat.le_total i k with q1 | q1<;>rcases Nat.le_total k m with q2 | q2<;>rcases Nat.le_total i m with q3 | q3
  ·obtain⟨f,f0,f1,f2,f3⟩:=t i k m q1 q2 hm;exact⟨f,f0,f1,f2,f3⟩
  ·obtain⟨f,f0,f1,f2,f3⟩:=t i k m q1 q2 hm;exact⟨f,f0,f1,f2,f3⟩
  ·obtain⟨f,f0,f1,f2,f3⟩:=t i m k q3 q2 hk;exact⟨f,f0,f1,f3,f2⟩
  ·obtain⟨f,f0,f1,f2,f3⟩:=t m i k q3 q1 hk;exact⟨f,f0,f2,f3,f1⟩
  ·obtain⟨f,f0,f1,f2,f3⟩:=t k i m q1 q3 hm;exact⟨f,f0,f2,f1,f3⟩
  ·obtain⟨f,f0,f1,f2,f3⟩:=t k m i q2 q3 hi;exact⟨f,f0,f3,f1,f2⟩
  ·obtain⟨f,f0,f1,f2,f3⟩:=t m k i q2 q1 hi;exact⟨f,f0,f3,f2,f1⟩
  ·obtain⟨f,f0,f1,f2,f3⟩:=t m k i q2 q1 hi;exact⟨f,f0,f3,f2,f1⟩) (λa b ha hb=>by
  obtain⟨i,hi,rfl⟩:=JP ha
  obtain⟨k,hk,rfl⟩:=JP hb
  rcases Nat.le_total i k with q1 | q1
  ·obtain⟨f,f0,f1,f2,f3⟩:=t i i k (Nat.le_refl _) q1 hk;exact⟨f,f0,f1,f3,trivial⟩
  ·obtain⟨f,f0,f1,f2,f3⟩:=t k k i (Nat.le_refl _) q1 hi;exact⟨f,f0,f3,f1,trivial⟩) ⟨⟨0,0,1⟩,⟨Int.one_pos,Int.le_refl _⟩,trivial⟩
 exact BNK ho h1 h2
theorem CRL{s:List Gau}(ho:∀g∈s,IT g)(ha:nM s){i k m:Nat}(h1:i<=k)(h2:k<=m)(h3:m<s.length)(h:Vh (gD s i) (gD s k) (gD s m)=false):¬Can s:=λ⟨x,x1,x2⟩=>by
 have o:∀i,i<s.length->(gD s i).lo<=(gD s i).hi:=λi hi=>(ho _ (BU hi)).2.2.2.1
 rw[(APW (o i (by omega)) (o k (by omega)) (o m h3) (ha i k h1 (by omega)) (ha k m h2 h3)).2 ⟨HM x,EM x1,x2 _ (BU (by omega)),x2 _ (BU (by omega)),x2 _ (BU h3)⟩] at h
 cases h
def VI(x:Gau)(l:List Gau):Nat->Nat
 |0=>0
 |n+1=>bif decide ((gD l n).st>x.st) then VI x l n else n+1
def insG(l:List Gau)(x:Gau):List Gau:=l.take (VI x l l.length) ++ x :: l.drop (VI x l l.length)
def EJ(l:List Gau):List Gau:=l.foldl insG []
theorem BBG(x:Gau)(l:List Gau):∀n,VI x l n<=n
 |0=>Nat.le_refl _
 |n+1=>by
  unfold VI
  cases decide ((gD l n).st>x.st)
  ·exact Nat.le_refl _
  ·have:=BBG x l n;show VI x l n<=n+1;omega
theorem ARX(x:Gau)(l:List Gau):∀n,(∀i,VI x l n<=i->i<n->x.st<(gD l i).st)/\(0<VI x l n->(gD l (VI x l n-1)).st<=x.st)
 |0=>⟨λi _ h=>by omega,λh=>by have h:0<0:=h;omega⟩
 |n+1=>by
  unfold VI
  by_cases h:(gD l n).st>x.st
  ·rw[decide_eq_true h]
   obtain⟨h1,h2⟩:=ARX x l n
   refine⟨λi a b=>?_,h2⟩
   by_cases e:i=n
   ·rw[e];exact h
   ·exact h1 i a (by omega)
  ·rw[decide_eq_false h]
   exact⟨λi a b=>by have a:n+1<=i:=a;omega,λ_=>by show (gD l (n+1-1)).st<=_;rw[show n+1-1=n by omega];omega⟩
theorem AST(l:List Gau)(x:Gau):(insG l x).Perm (x :: l):=by
 unfold insG
 have:=List.perm_middle (a:=x) (l₁:=l.take (VI x l l.length)) (l₂:=l.drop (VI x l l.length))
 rw[List.take_append_drop] at this;exact this
theorem ALQ:∀(l a:List Gau),(l.foldl insG a).Perm (a ++ l)
 |[],a=>by simp
 |x :: l,a=>by
  refine (ALQ l (insG a x)).trans ?_
  refine ((AST a x).append_right l).trans ?_
  exact (List.perm_middle (a:=x) (l₁:=a) (l₂:=l)).symm
theorem JW(l:List Gau):(EJ l).Perm l:=by have:=ALQ l [];simpa[EJ] using this
theorem BYL(l:List Gau)(x:Gau):(insG l x).length=l.length+1:=(AST l x).length_eq
theorem BAO{l:List Gau}{x:Gau}{i:Nat}:gD (insG l x) i=if i<VI x l l.length then gD l i else if i=VI x l l.length then x else gD l (i-1):=by
 have hp:=BBG x l l.length
 unfold insG
 rw[jC,List.length_take,Nat.min_eq_left hp]
 by_cases h1:i<VI x l l.length
 ·rw[if_pos h1,if_pos h1];simp[gD,List.getD_eq_getElem?_getD,List.getElem?_take,h1]
 ·rw[if_neg h1,if_neg h1]
  by_cases h2:i=VI x l l.length
  ·rw[if_pos h2,h2,Nat.sub_self];rfl
  ·rw[if_neg h2]
   obtain⟨j,hj⟩:∃j,i-VI x l l.length=j+1:=⟨i-VI x l l.length-1,by omega⟩
   rw[hj]
   show gD (l.drop (VI x l l.length)) j=_
   simp only[gD,List.getD_eq_getElem?_getD,List.getElem?_drop]
   rw[show VI x l l.length+j=i-1 by omega]
theorem CGJ{l:List Gau}{x:Gau}(h:nM l):nM (insG l x):=λi j hij hj=>by
 rw[BYL] at hj
 have hp:=BBG x l l.length
 obtain⟨s1,s2⟩:=ARX x l l.length
 rw[BAO,BAO]
 by_cases a1:i<VI x l l.length
 ·rw[if_pos a1]
  by_cases b1:j<VI x l l.length
  ·rw[if_pos b1];exact h i j hij (by omega)
  ·rw[if_neg b1]
   have h3:=h i (VI x l l.length-1) (by omega) (by omega)
   have h4:=s2 (by omega)
   by_cases b2:j=VI x l l.length
   ·rw[if_pos b2];omega
   ·rw[if_neg b2]
    have:=s1 (j-1) (by omega) (by omega);omega
 ·rw[if_neg a1,if_neg (show ¬j<VI x l l.length by omega)]
  by_cases a2:i=VI x l l.length
  ·rw[if_pos a2]
   by_cases b2:j=VI x l l.length
   ·rw[if_pos b2];exact Int.le_refl _
   ·rw[if_neg b2]
    have:=s1 (j-1) (by omega) (by omega);omega
  ·rw[if_neg a2,if_neg (show ¬j=VI x l l.length by omega)]
   exact h (i-1) (j-1) (by omega) (by omega)
theorem ASH:∀(l a:List Gau),nM a->nM (l.foldl insG a)
 |[],a,h=>h
 |x :: l,a,h=>ASH l (insG a x) (CGJ h)
theorem vD(l:List Gau):nM (EJ l):=ASH l [] λi j _ h=>by have h:j<0:=h;omega
theorem BYA(l:List Gau):Can (EJ l)↔Can l:=⟨λh=>h.mono λg hg=>(JW l).mem_iff.2 hg,λh=>h.mono λg hg=>(JW l).mem_iff.1 hg⟩
end Go.Bal
