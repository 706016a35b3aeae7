/- Package rating: what the reference finds for flows (no program in sight). -/
import Derived.Test.YtpidmmilfdcepaaGreatRZ5
set_option linter.unusedVariables false
set_option linter.unusedSimpArgs false
namespace Go.Bal
open Go Go.Sym Go.Proofs
def Ci(s:List Gau):Bool:=(EV s).2
theorem Vs{s:List Gau}(hs:∀g∈s,IT g):Ci s=true↔Can s:=(bR hs).1
theorem CEL{s:List Gau}(ho:∀g∈s,IT g)(ha:nM s){i k m:Nat}(h1:i<=k)(h2:k<=m)(h3:m<s.length)(h:Vh (gD s i) (gD s k) (gD s m)=false):Ci s=false:=by
 cases hp:Ci s with
 |false=>rfl
 |true=>exact absurd ((Vs ho).1 hp) (CRL ho ha h1 h2 h3 h)
def BRV(s:List Gau)(i k m:Nat):Prop:=∀a b c,a<=b->b<=c->c<s.length->(a<i∨a=i/\(b<k∨b=k/\c<m))->Vh (gD s a) (gD s b) (gD s c)=true
theorem BVB{s:List Gau}(ho:∀g∈s,IT g)(ha:nM s)(h:BRV s s.length 0 0):Ci s=true:=(Vs ho).2 (CKI ho ha λi k m h1 h2 h3=>h i k m h1 h2 h3 (.inl (by omega)))
structure MaxR(S Q:Rt->Prop)(r:Rt):Prop where
 low:lowR r
 b:0<=r.n/\r.n<=1000000000/\r.d<=2000
 all:∀x,S x->0<x.d/\XE x r
 is:r=⟨0,1⟩∨∃x,Q x/\0<x.d/\r.n*x.d=x.n*r.d
structure MinR(S Q:Rt->Prop)(r:Rt):Prop where
 low:lowR r
 b:-1000000000<=r.n/\r.n<=200000*r.d/\r.d<=2000
 all:∀x,S x->0<x.d/\XE r x
 is:r=⟨200000,1⟩∨∃x,Q x/\0<x.d/\r.n*x.d=x.n*r.d
structure Frc(x v:Rt):Prop where
 low:lowR v
 d:0<x.d
 e:v.n*x.d=x.n*v.d
 b:-1000000000<=v.n/\v.n<=1000000000/\v.d<=2000
theorem BOR{a d:Int}(h1:-1000000000<=a/\a<=1000000000)(h2:0<d/\d<=2000):-2000000000000<=a*d/\a*d<=2000000000000:=by
 constructor
 ·have e1:=Int.mul_le_mul_of_nonneg_right h1.1 (show 0<=d by omega)
  omega
 ·have e1:=Int.mul_le_mul_of_nonneg_right h1.2 (show 0<=d by omega)
  omega
theorem AXS{a b:Rt}(ha:-1000000000<=a.n/\a.n<=1000000000)(hb:-1000000000<=b.n/\b.n<=1000000000)(da:0<a.d/\a.d<=2000)(db:0<b.d/\b.d<=2000):decide (wr (a.n*b.d)<wr (b.n*a.d))=decide (a.n*b.d<b.n*a.d):=by
 have e1:=BOR ha db
 have e2:=BOR hb da
 rw[show wr (a.n*b.d)=a.n*b.d from HL (by omega) (by omega),show wr (b.n*a.d)=b.n*a.d from HL (by omega) (by omega)]
theorem BRI{x v r:Rt}(hx:0<x.d)(hv:0<v.d)(e:v.n*x.d=x.n*v.d):XE v r↔XE x r:=by
 unfold XE
 constructor
 ·intro h
  refine Int.le_of_mul_le_mul_right (?_:_*v.d<=_*v.d) hv
  have:=Int.mul_le_mul_of_nonneg_right h (Int.le_of_lt hx)
  have e1:x.n*r.d*v.d=v.n*r.d*x.d:=by
   have:x.n*r.d*v.d=x.n*v.d*r.d:=by grind
   rw[this,<-e];grind
  have e2:r.n*x.d*v.d=r.n*v.d*x.d:=by grind
  omega
 ·intro h
  refine Int.le_of_mul_le_mul_right (?_:_*x.d<=_*x.d) hx
  have:=Int.mul_le_mul_of_nonneg_right h (Int.le_of_lt hv)
  have e1:v.n*r.d*x.d=x.n*r.d*v.d:=by
   have:v.n*r.d*x.d=v.n*x.d*r.d:=by grind
   rw[this,e];grind
  have e2:r.n*v.d*x.d=r.n*x.d*v.d:=by grind
  omega
theorem BFO{x v r:Rt}(hx:0<x.d)(hv:0<v.d)(e:v.n*x.d=x.n*v.d):XE r v↔XE r x:=by
 unfold XE
 constructor
 ·intro h
  refine Int.le_of_mul_le_mul_right (?_:_*v.d<=_*v.d) hv
  have:=Int.mul_le_mul_of_nonneg_right h (Int.le_of_lt hx)
  have e1:x.n*r.d*v.d=v.n*r.d*x.d:=by
   have:x.n*r.d*v.d=x.n*v.d*r.d:=by grind
   rw[this,<-e];grind
  have e2:r.n*x.d*v.d=r.n*v.d*x.d:=by grind
  omega
 ·intro h
  refine Int.le_of_mul_le_mul_right (?_:_*x.d<=_*x.d) hx
  have:=Int.mul_le_mul_of_nonneg_right h (Int.le_of_lt hv)
  have e1:v.n*r.d*x.d=x.n*r.d*v.d:=by
   have:v.n*r.d*x.d=v.n*x.d*r.d:=by grind
   rw[this,e];grind
  have e2:r.n*v.d*x.d=r.n*x.d*v.d:=by grind
  omega
theorem MaxR.weak{S T Q:Rt->Prop}{r:Rt}(h:MaxR S Q r)(hs:∀x,T x->S x):MaxR T Q r:=⟨h.low,h.b,λx hx=>h.all x (hs x hx),h.is⟩
theorem MinR.weak{S T Q:Rt->Prop}{r:Rt}(h:MinR S Q r)(hs:∀x,T x->S x):MinR T Q r:=⟨h.low,h.b,λx hx=>h.all x (hs x hx),h.is⟩
theorem MaxR.take{S Q:Rt->Prop}{r x v:Rt}(h:MaxR S Q r)(hv:Frc x v)(hq:Q x)(hb:decide (wr (r.n*v.d)<wr (v.n*r.d))=true):MaxR (λy=>S y∨y=x) Q v:=by
 have h0:=h.low.1
 have v0:=hv.low.1
 obtain⟨b1,b2,b3⟩:=h.b
 obtain⟨c1,c2,c3⟩:=hv.b
 rw[AXS (by omega) (by omega) (by omega) (by omega),decide_eq_true_eq] at hb
 have hp:0<=v.n:=by
  have:0<=r.n*v.d:=Int.mul_nonneg b1 (by omega)
  have:0<v.n*r.d:=by omega
  exact Classical.byContradiction λhc=>by
   have:=Int.mul_le_mul_of_nonneg_right (show v.n<=0 by omega) (show 0<=r.d by omega)
   omega
 refine⟨hv.low,⟨hp,c2,c3⟩,λy hy=>?_,.inr ⟨x,hq,hv.d,hv.e⟩⟩
 rcases hy with hy | rfl
 ·obtain⟨y1,y2⟩:=h.all y hy
  exact⟨y1,IQ (Int.le_of_lt y1) h0 (Int.le_of_lt v0) y2 (Int.le_of_lt hb)⟩
 ·exact⟨hv.d,(BRI hv.d v0 hv.e).1 (ADL v)⟩
theorem MaxR.keep{S Q:Rt->Prop}{r x v:Rt}(h:MaxR S Q r)(hv:Frc x v)(hb:decide (wr (r.n*v.d)<wr (v.n*r.d))=false):MaxR (λy=>S y∨y=x) Q r:=by
 have h0:=h.low.1
 have v0:=hv.low.1
 obtain⟨b1,b2,b3⟩:=h.b
 obtain⟨c1,c2,c3⟩:=hv.b
 rw[AXS (by omega) (by omega) (by omega) (by omega),decide_eq_false_iff_not] at hb
 refine⟨h.low,h.b,λy hy=>?_,h.is⟩
 rcases hy with hy | rfl
 ·exact h.all y hy
 ·exact⟨hv.d,(BRI hv.d v0 hv.e).1 (Int.not_lt.1 hb)⟩
theorem MinR.take{S Q:Rt->Prop}{r x v:Rt}(h:MinR S Q r)(hv:Frc x v)(hq:Q x)(hb:decide (wr (v.n*r.d)<wr (r.n*v.d))=true):MinR (λy=>S y∨y=x) Q v:=by
 have h0:=h.low.1
 have v0:=hv.low.1
 obtain⟨b1,b2,b3⟩:=h.b
 obtain⟨c1,c2,c3⟩:=hv.b
 rw[AXS (by omega) (by omega) (by omega) (by omega),decide_eq_true_eq] at hb
 have hp:v.n<=200000*v.d:=by
  have e1:=Int.mul_le_mul_of_nonneg_right b2 (Int.le_of_lt v0)
  have e2:200000*r.d*v.d=200000*v.d*r.d:=by grind
  exact Int.le_of_mul_le_mul_right (show v.n*r.d<=200000*v.d*r.d by omega) h0
 refine⟨hv.low,⟨c1,hp,c3⟩,λy hy=>?_,.inr ⟨x,hq,hv.d,hv.e⟩⟩
 rcases hy with hy | rfl
 ·obtain⟨y1,y2⟩:=h.all y hy
  exact⟨y1,IQ (Int.le_of_lt v0) h0 (Int.le_of_lt y1) (Int.le_of_lt hb) y2⟩
 ·exact⟨hv.d,(BFO hv.d v0 hv.e).1 (ADL v)⟩
theorem MinR.keep{S Q:Rt->Prop}{r x v:Rt}(h:MinR S Q r)(hv:Frc x v)(hb:decide (wr (v.n*r.d)<wr (r.n*v.d))=false):MinR (λy=>S y∨y=x) Q r:=by
 have h0:=h.low.1
 have v0:=hv.low.1
 obtain⟨b1,b2,b3⟩:=h.b
 obtain⟨c1,c2,c3⟩:=hv.b
 rw[AXS (by omega) (by omega) (by omega) (by omega),decide_eq_false_iff_not] at hb
 refine⟨h.low,h.b,λy hy=>?_,h.is⟩
 rcases hy with hy | rfl
 ·exact h.all y hy
 ·exact⟨hv.d,(BFO hv.d v0 hv.e).1 (Int.not_lt.1 hb)⟩
def oneA(i k j:Nat):Prop:=j<i∨j=i/\i<k
def twoA(i k j m:Nat):Prop:=j<m/\(j<i∨j=i/\m<k)
def loO(s:List Gau)(t:Int)(i k:Nat)(x:Rt):Prop:=(∃j,j<s.length/\oneA i k j/\(gD s j).st<=t/\x=⟨(gD s j).lo,1⟩)∨∃j m,m<s.length/\twoA i k j m/\(gD s j).st<(gD s m).st/\x=⟨(sZ (gD s j) (gD s m) t).num t,(sZ (gD s j) (gD s m) t).w⟩
def hiO(s:List Gau)(t:Int)(i k:Nat)(x:Rt):Prop:=(∃j,j<s.length/\oneA i k j/\t<=(gD s j).st/\x=⟨(gD s j).hi,1⟩)∨∃j m,m<s.length/\twoA i k j m/\(gD s j).st<(gD s m).st/\x=⟨(tA (gD s j) (gD s m) t).num t,(tA (gD s j) (gD s m) t).w⟩
def loQ(s:List Gau)(t:Int)(x:Rt):Prop:=(∃g∈s,g.st<=t/\x=⟨g.lo,1⟩)∨∃a∈s,∃b∈s,a.st<b.st/\x=⟨(sZ a b t).num t,(sZ a b t).w⟩
def hiQ(s:List Gau)(t:Int)(x:Rt):Prop:=(∃g∈s,t<=g.st/\x=⟨g.hi,1⟩)∨∃a∈s,∃b∈s,a.st<b.st/\x=⟨(tA a b t).num t,(tA a b t).w⟩
def flI(s:List Gau)(t:Int)(i k:Nat)(lo hi:Rt):Prop:=MaxR (loO s t i k) (loQ s t) lo/\MinR (hiO s t i k) (hiQ s t) hi
theorem ABX(n:Int):lowR ⟨n,1⟩:=⟨Int.one_pos,by show Nat.gcd n.natAbs 1=1;exact Nat.gcd_one_right _⟩
theorem CYX(s:List Gau)(t:Int):flI s t 0 0 ⟨0,1⟩ ⟨200000,1⟩:=by
 refine⟨⟨ABX 0,⟨Int.le_refl _,by show (0:Int)<=1000000000;omega,by show (1:Int)<=2000;omega⟩,λx hx=>?_,.inl rfl⟩,⟨ABX _,⟨by show (-1000000000:Int)<=200000;omega,by show (200000:Int)<=200000*1;omega,by show (1:Int)<=2000;omega⟩,λx hx=>?_,.inl rfl⟩⟩
 ·rcases hx with⟨j,_,h,_⟩ | ⟨j,m,_,h,_⟩
  ·unfold oneA at h;omega
  ·unfold twoA at h;omega
 ·rcases hx with⟨j,_,h,_⟩ | ⟨j,m,_,h,_⟩
  ·unfold oneA at h;omega
  ·unfold twoA at h;omega
theorem CBK{s:List Gau}{t:Int}{i:Nat}{lo hi:Rt}(h:flI s t i s.length lo hi):flI s t (i+1) 0 lo hi:=by
 refine⟨h.1.weak λx hx=>?_,h.2.weak λx hx=>?_⟩
 ·rcases hx with⟨j,j1,j2,j3⟩ | ⟨j,m,j1,j2,j3⟩
  ·exact .inl ⟨j,j1,by unfold oneA at *;omega,j3⟩
  ·exact .inr ⟨j,m,j1,by unfold twoA at *;omega,j3⟩
 ·rcases hx with⟨j,j1,j2,j3⟩ | ⟨j,m,j1,j2,j3⟩
  ·exact .inl ⟨j,j1,by unfold oneA at *;omega,j3⟩
  ·exact .inr ⟨j,m,j1,by unfold twoA at *;omega,j3⟩
theorem BRT{n:Int}(h:0<=n/\n<=200000):Frc ⟨n,1⟩ ⟨n,1⟩:=⟨ABX n,Int.one_pos,rfl,by show (-1000000000:Int)<=n;omega,by show n<=(1000000000:Int);omega,by show (1:Int)<=2000;omega⟩
theorem BYR{a v b w t:Int}(h:a<b)(h1:0<=a)(h2:b<=2000)(hv:0<=v/\v<=200000)(hw:0<=w/\w<=200000)(ht:0<=t/\t<=2000):Frc ⟨(pt2 a v b w).num t,(pt2 a v b w).w⟩ (El (v*(b-t)+w*(t-a)) (b-a)) /\ -1000000000<=v*(b-t)+w*(t-a)/\v*(b-t)+w*(t-a)<=1000000000:=by
 have hb:∀{v x:Int},0<=v/\v<=200000 -> -2000<=x/\x<=2000 -> -400000000<=v*x/\v*x<=400000000:=λ{v x} h1 h2=>by
  have e1:=Int.mul_le_mul_of_nonneg_left h2.1 h1.1
  have e2:=Int.mul_le_mul_of_nonneg_left h2.2 h1.1
  omega
 have q1:=hb hv (x:=b-t) (by omega)
 have q2:=hb hw (x:=t-a) (by omega)
 have hd:=U4 (n:=v*(b-t)+w*(t-a)) (d:=b-a) (by omega)
 have hn:=BNC (n:=v*(b-t)+w*(t-a)) (d:=b-a)
 have hx:=jU (n:=v*(b-t)+w*(t-a)) (d:=b-a) (by omega)
 refine⟨⟨BTV (by omega),by show 0<b-a;omega,?_,by omega,by omega,by omega⟩,by omega,by omega⟩
 rw[Vq];exact hx
theorem BPR{s:List Gau}{t:Int}{i:Nat}{x:Rt}(h:loO s t i (i+1) x):loO s t i 0 x∨(gD s i).st<=t/\x=⟨(gD s i).lo,1⟩:=by
 rcases h with⟨j,j1,j2,j3,j4⟩ | ⟨j,m,j1,j2,j3⟩
 ·by_cases e:j=i
  ·subst e;exact .inr ⟨j3,j4⟩
  ·exact .inl (.inl ⟨j,j1,by unfold oneA at *;omega,j3,j4⟩)
 ·exact .inl (.inr ⟨j,m,j1,by unfold twoA at *;omega,j3⟩)
theorem BTA{s:List Gau}{t:Int}{i:Nat}{x:Rt}(h:hiO s t i (i+1) x):hiO s t i 0 x∨t<=(gD s i).st/\x=⟨(gD s i).hi,1⟩:=by
 rcases h with⟨j,j1,j2,j3,j4⟩ | ⟨j,m,j1,j2,j3⟩
 ·by_cases e:j=i
  ·subst e;exact .inr ⟨j3,j4⟩
  ·exact .inl (.inl ⟨j,j1,by unfold oneA at *;omega,j3,j4⟩)
 ·exact .inl (.inr ⟨j,m,j1,by unfold twoA at *;omega,j3⟩)
theorem BTH{s:List Gau}{t:Int}{i k:Nat}{x:Rt}(hk:i<k)(h:loO s t i (k+1) x):loO s t i k x∨(gD s i).st<(gD s k).st/\x=⟨(sZ (gD s i) (gD s k) t).num t,(sZ (gD s i) (gD s k) t).w⟩:=by
 rcases h with⟨j,j1,j2,j3,j4⟩ | ⟨j,m,j1,j2,j3,j4⟩
 ·exact .inl (.inl ⟨j,j1,by unfold oneA at *;omega,j3,j4⟩)
 ·by_cases e:j=i/\m=k
  ·obtain⟨rfl,rfl⟩:=e;exact .inr ⟨j3,j4⟩
  ·exact .inl (.inr ⟨j,m,j1,by unfold twoA at *;omega,j3,j4⟩)
theorem BTI{s:List Gau}{t:Int}{i k:Nat}{x:Rt}(hk:i<k)(h:hiO s t i (k+1) x):hiO s t i k x∨(gD s i).st<(gD s k).st/\x=⟨(tA (gD s i) (gD s k) t).num t,(tA (gD s i) (gD s k) t).w⟩:=by
 rcases h with⟨j,j1,j2,j3,j4⟩ | ⟨j,m,j1,j2,j3,j4⟩
 ·exact .inl (.inl ⟨j,j1,by unfold oneA at *;omega,j3,j4⟩)
 ·by_cases e:j=i/\m=k
  ·obtain⟨rfl,rfl⟩:=e;exact .inr ⟨j3,j4⟩
  ·exact .inl (.inr ⟨j,m,j1,by unfold twoA at *;omega,j3,j4⟩)
def Qe(a b:Rt):Bool:=decide (wr (a.n*b.d)<wr (b.n*a.d))
theorem CRW{s:List Gau}{t:Int}{i:Nat}{r:Rt}(ho:∀g∈s,IT g)(hi:i<s.length)(h:MaxR (loO s t i 0) (loQ s t) r):MaxR (loO s t i (i+1)) (loQ s t) (bif (bif decide ((gD s i).st<=t) then Qe r ⟨(gD s i).lo,1⟩ else false) then⟨(gD s i).lo,1⟩ else r):=by
 have hm:=BU (l:=s) hi
 obtain⟨o1,o2,o3,o4,o5⟩:=ho _ hm
 have hf:=BRT (n:=(gD s i).lo) (by omega)
 by_cases c:(gD s i).st<=t
 ·rw[decide_eq_true c]
  have hw:∀x,loO s t i (i+1) x->loO s t i 0 x∨x=⟨(gD s i).lo,1⟩:=λx hx=>(BPR hx).imp id λq=>q.2
  cases hb:Qe r ⟨(gD s i).lo,1⟩ with
  |true=>exact (h.take hf (.inl ⟨_,hm,c,rfl⟩) hb).weak hw
  |false=>exact (h.keep hf hb).weak hw
 ·rw[decide_eq_false c]
  exact h.weak λx hx=>(BPR hx).resolve_right λq=>c q.1
theorem CTI{s:List Gau}{t:Int}{i:Nat}{r:Rt}(ho:∀g∈s,IT g)(hi:i<s.length)(h:MinR (hiO s t i 0) (hiQ s t) r):MinR (hiO s t i (i+1)) (hiQ s t) (bif (bif decide ((gD s i).st>=t) then Qe ⟨(gD s i).hi,1⟩ r else false) then⟨(gD s i).hi,1⟩ else r):=by
 have hm:=BU (l:=s) hi
 obtain⟨o1,o2,o3,o4,o5⟩:=ho _ hm
 have hf:=BRT (n:=(gD s i).hi) (by omega)
 by_cases c:t<=(gD s i).st
 ·rw[decide_eq_true (show (gD s i).st>=t from c)]
  have hw:∀x,hiO s t i (i+1) x->hiO s t i 0 x∨x=⟨(gD s i).hi,1⟩:=λx hx=>(BTA hx).imp id λq=>q.2
  cases hb:Qe ⟨(gD s i).hi,1⟩ r with
  |true=>exact (h.take hf (.inl ⟨_,hm,c,rfl⟩) hb).weak hw
  |false=>exact (h.keep hf hb).weak hw
 ·rw[decide_eq_false (show ¬(gD s i).st>=t from c)]
  exact h.weak λx hx=>(BTA hx).resolve_right λq=>c q.1
def U0(a b:Gau)(t:Int):Rt:=El (loV a b t*(b.st-t)+loW a b t*(t-a.st)) (b.st-a.st)
def U8(a b:Gau)(t:Int):Rt:=El (hiV a b t*(b.st-t)+hiW a b t*(t-a.st)) (b.st-a.st)
theorem v_in{a b:Gau}(ha:IT a)(hb:IT b)(t:Int):(0<=loV a b t/\loV a b t<=200000)/\(0<=loW a b t/\loW a b t<=200000)/\(0<=hiV a b t/\hiV a b t<=200000)/\0<=hiW a b t/\hiW a b t<=200000:=by
 obtain⟨o1,o2,o3,o4,o5⟩:=ha
 obtain⟨q1,q2,q3,q4,q5⟩:=hb
 unfold loV loW hiV hiW
 by_cases c1:b.st<=t
 ·simp only[if_pos c1];omega
 ·by_cases c2:t<=a.st
  ·simp only[if_neg c1,if_pos c2];omega
  ·simp only[if_neg c1,if_neg c2];omega
theorem CCZ{a b:Gau}{t:Int}(ha:IT a)(hb:IT b)(h:a.st<b.st)(ht:0<=t/\t<=2000):Frc ⟨(sZ a b t).num t,(sZ a b t).w⟩ (U0 a b t)/\Frc ⟨(tA a b t).num t,(tA a b t).w⟩ (U8 a b t):=by
 obtain⟨v1,v2,v3,v4⟩:=v_in ha hb t
 exact⟨(BYR h ha.1 hb.2.1 v1 v2 ht).1,(BYR h ha.1 hb.2.1 v3 v4 ht).1⟩
theorem CAZ{s:List Gau}{t:Int}{i k:Nat}{lo hi:Rt}(hk:i<k)(e:(gD s k).st=(gD s i).st)(h:flI s t i k lo hi):flI s t i (k+1) lo hi:=
 ⟨h.1.weak λx hx=>(BTH hk hx).resolve_right λq=>by omega,h.2.weak λx hx=>(BTI hk hx).resolve_right λq=>by omega⟩
theorem CTX{s:List Gau}{t:Int}{i k:Nat}{r:Rt}(ho:∀g∈s,IT g)(ht:0<=t/\t<=2000)(hik:i<k)(hk:k<s.length)(hl:(gD s i).st<(gD s k).st)(h:MaxR (loO s t i k) (loQ s t) r):MaxR (loO s t i (k+1)) (loQ s t) (bif Qe r (U0 (gD s i) (gD s k) t) then U0 (gD s i) (gD s k) t else r):=by
 have hm:=BU (l:=s) (show i<s.length by omega)
 have hn:=BU (l:=s) hk
 have hf:=(CCZ (ho _ hm) (ho _ hn) hl ht).1
 have hw:∀x,loO s t i (k+1) x->loO s t i k x∨x=⟨(sZ (gD s i) (gD s k) t).num t,(sZ (gD s i) (gD s k) t).w⟩:=λx hx=>(BTH hik hx).imp id λq=>q.2
 cases hb:Qe r (U0 (gD s i) (gD s k) t) with
 |true=>exact (h.take hf (.inr ⟨_,hm,_,hn,hl,rfl⟩) hb).weak hw
 |false=>exact (h.keep hf hb).weak hw
theorem CUA{s:List Gau}{t:Int}{i k:Nat}{r:Rt}(ho:∀g∈s,IT g)(ht:0<=t/\t<=2000)(hik:i<k)(hk:k<s.length)(hl:(gD s i).st<(gD s k).st)(h:MinR (hiO s t i k) (hiQ s t) r):MinR (hiO s t i (k+1)) (hiQ s t) (bif Qe (U8 (gD s i) (gD s k) t) r then U8 (gD s i) (gD s k) t else r):=by
 have hm:=BU (l:=s) (show i<s.length by omega)
 have hn:=BU (l:=s) hk
 have hf:=(CCZ (ho _ hm) (ho _ hn) hl ht).2
 have hw:∀x,hiO s t i (k+1) x->hiO s t i k x∨x=⟨(tA (gD s i) (gD s k) t).num t,(tA (gD s i) (gD s k) t).w⟩:=λx hx=>(BTI hik hx).imp id λq=>q.2
 cases hb:Qe (U8 (gD s i) (gD s k) t) r with
 |true=>exact (h.take hf (.inr ⟨_,hm,_,hn,hl,rfl⟩) hb).weak hw
 |false=>exact (h.keep hf hb).weak hw
theorem BXT(r:Rt)(t:Int):FG (zI r) t=Cf r:=by
 unfold FG Cf;rw[Vi];rfl
theorem ASC{r:Rt}(h:lowR r):lowR (Cf r):=by
 unfold Cf;split
 ·exact ABX 0
 ·split
  ·exact ABX _
  ·exact h
theorem CVS{s:List Gau}{t:Int}{lo hi:Rt}(ho:∀g∈s,IT g)(ha:nM s)(ht:0<=t/\t<=2000)(hc:Can s)(h:flI s t s.length 0 lo hi):Bnd.mk (Cf lo) (Cf hi)=RP s t:=by
 obtain⟨h1,h2⟩:=h
 have lt:∀{j m:Nat},j<s.length->m<s.length->(gD s j).st<(gD s m).st->j<m:=λ{j m} hj hm q=>Classical.byContradiction λhc=>by
  have:=ha m j (by omega) hj;omega
 have E1:LoE s t lo:=by
  refine⟨h1.low.1,h1.b.1,λg hg hst=>?_,λa h3 b h4 hst=>?_,?_⟩
  ·obtain⟨j,hj,rfl⟩:=JP hg
   have:=(h1.all _ (.inl ⟨j,hj,.inl hj,hst,rfl⟩)).2
   unfold XE at this;simpa using this
  ·obtain⟨j,hj,rfl⟩:=JP h3
   obtain⟨m,hm,rfl⟩:=JP h4
   exact (h1.all _ (.inr ⟨j,m,hm,⟨lt hj hm hst,.inl hj⟩,hst,rfl⟩)).2
  ·rcases h1.is with e | ⟨x,hq,_,e⟩
   ·rw[e];exact .inl rfl
   ·rcases hq with⟨g,hg,hst,rfl⟩ | ⟨a,h3,b,h4,hst,rfl⟩
    ·exact .inr (.inl ⟨g,hg,hst,by simpa using e.symm⟩)
    ·exact .inr (.inr ⟨a,h3,b,h4,hst,e.symm⟩)
 have E2:HiE s t hi:=by
  refine⟨h2.low.1,h2.b.2.1,λg hg hst=>?_,λa h3 b h4 hst=>?_,?_⟩
  ·obtain⟨j,hj,rfl⟩:=JP hg
   have:=(h2.all _ (.inl ⟨j,hj,.inl hj,hst,rfl⟩)).2
   unfold XE at this;simpa using this
  ·obtain⟨j,hj,rfl⟩:=JP h3
   obtain⟨m,hm,rfl⟩:=JP h4
   exact (h2.all _ (.inr ⟨j,m,hm,⟨lt hj hm hst,.inl hj⟩,hst,rfl⟩)).2
  ·rcases h2.is with e | ⟨x,hq,_,e⟩
   ·rw[e];exact .inl rfl
   ·rcases hq with⟨g,hg,hst,rfl⟩ | ⟨a,h3,b,h4,hst,rfl⟩
    ·exact .inr (.inl ⟨g,hg,hst,by simpa using e⟩)
    ·exact .inr (.inr ⟨a,h3,b,h4,hst,e⟩)
 obtain⟨x0,hx0,px0⟩:=hc
 have hne:PX s t≠[]:=nH ho ht (EM hx0) px0
 have hc:Can s:=⟨x0,hx0,px0⟩
 obtain⟨w1,w2⟩:=AZB ho hne
 obtain⟨a1,a2⟩:=CUN ho ht hc E1
 obtain⟨b1,b2⟩:=CTO ho ht hc E2
 rw[BXT] at a1 a2 b1 b2
 exact CDU (AXC (ASC h1.low) w1 a2 a1) (AXC (ASC h2.low) w2 b1 b2)
theorem AAU{s:List Gau}{t:Int}(hs:∀g∈s,IT g)(ht:0<=t/\t<=2000):PX s t≠[]↔Can s:=by
 constructor
 ·intro h
  obtain⟨⟨y,y1,y2,_⟩,_⟩:=Ay hs h
  exact⟨y,y1,y2⟩
 ·rintro⟨x,h1,h2⟩
  exact nH hs ht (EM h1) h2
theorem AWQ{s u:List Gau}{t:Int}(hs:∀g∈s,IT g)(hm:∀x,x∈u↔x∈s)(ht:0<=t/\t<=2000)(hne:PX s t≠[]):RP u t=RP s t:=
 (BXW hs (λx hx=>hs x ((hm x).1 hx)) ht ht (λf hf hp=>⟨f,hf,λy hy=>hp y ((hm y).1 hy),rfl,rfl⟩) (λf hf hp=>⟨f,hf,λy hy=>hp y ((hm y).2 hy),rfl,rfl⟩) hne).2
def SB(l:List Gau)(b:List Int)(k:Int):List Gau:=EJ (CV l b k)
theorem tF{l:List Gau}{b:List Int}{k:Int}{x:Gau}:x∈SB l b k↔x∈CV l b k:=(JW _).mem_iff
theorem mR{l:List Gau}{b:List Int}{k:Int}(ho:∀g∈l,IT g):∀g∈SB l b k,IT g:=λg hg=>Bv ho g (tF.1 hg)
theorem aL(l:List Gau)(b:List Int)(k:Int):nM (SB l b k):=vD _
theorem BFY(l:List Gau)(b:List Int)(k:Int):Can (SB l b k)↔Can (CV l b k):=BYA _
theorem Nr{l:List Gau}{b:List Int}{k:Int}(ho:∀g∈l,IT g):Ci (SB l b k)=true↔Can (CV l b k):=(Vs (mR ho)).trans (BFY l b k)
theorem iG(l:List Gau)(b:List Int)(k:Int):(SB l b k).length<=l.length:=by
 unfold SB CV Jp FM
 rw[(JW _).length_eq];exact List.length_filter_le _ _
theorem Ts{a:GB}(h:AV a=0):∀g∈a.g,IT g:=(WT h).2.1
theorem CEI{a:GBt}(h:AV (Pq a)=0)(hT:inT a=true):(Ci (SB a.g a.b (KB a.b a.t))=true->EW a=0/\KN a=RP (SB a.g a.b (KB a.b a.t)) a.t)/\(Ci (SB a.g a.b (KB a.b a.t))=false->EW a=6):=by
 have ho:∀g∈a.g,IT g:=Ts h
 have ho':∀g∈CV a.g a.b (KB a.b a.t),IT g:=Bv ho
 have ht:0<=a.t/\a.t<=2000:=by unfold inT JD at hT;simpa using hT
 have ec:∀c:Bool,decide ((lB (bkT a)).length=0)=c->EW a=bif c then 6 else 0:=λc hc=>by unfold EW;rw[h,hT,hc];rfl
 refine⟨λhp=>?_,λhp=>?_⟩
 ·have hne:=(AAU ho' ht).2 ((Nr ho).1 hp)
  have e:=ec false (decide_eq_false λhc=>hne (List.eq_nil_of_length_eq_zero hc))
  refine⟨e,?_⟩
  rw[AWQ ho' (λx=>tF) ht hne]
  unfold KN;rw[e];rfl
 ·refine ec true (decide_eq_true ?_)
  have hn:¬Can (CV a.g a.b (KB a.b a.t)):=λhc=>by rw[(Nr ho).2 hc] at hp;cases hp
  have:PX (CV a.g a.b (KB a.b a.t)) a.t=[]:=Classical.byContradiction λhc=>hn ((AAU ho' ht).1 hc)
  show (PX (CV a.g a.b (KB a.b a.t)) a.t).length=0
  rw[this];rfl
end Go.Bal
