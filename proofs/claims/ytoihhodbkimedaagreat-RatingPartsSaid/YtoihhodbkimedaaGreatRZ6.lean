/- Package rating: gaugings by rising stages, and whether a line passes them, asked of threes (no program in sight). -/
import Derived.Test.YtoihhodbkimedaaGreatRZ1
import Derived.Test.YtoihhodbkimedaaGreatRLn2
set_option linter.unusedVariables false
set_option linter.unusedSimpArgs false
namespace Go.Bal
open Go Go.Sym Go.Proofs
def yD(s:List Gau):Prop:=∀i j,i<=j->j<s.length->(gD s i).st<=(gD s j).st
theorem CHH{s:List Gau}(ho:∀g∈s,RK g)(ha:yD s)(h:∀i k m,i<=k->k<=m->m<s.length->Wd (gD s i) (gD s k) (gD s m)=true):Can s:=by
 have o:∀i,i<s.length->(gD s i).lo<=(gD s i).hi:=λi hi=>(ho _ (CV hi)).2.2.2.1
 have t:∀i k m,i<=k->k<=m->m<s.length->∃f:Rl,f.ok/\f.pass (gD s i)/\f.pass (gD s k)/\f.pass (gD s m):=λi k m h1 h2 h3=>
  (AON (o i (by omega)) (o k (by omega)) (o m h3) (ha i k h1 (by omega)) (ha k m h2 h3)).1 (h i k m h1 h2 h3)
 obtain⟨x,h1,h2,_⟩:=BQS (s:=s) (A:=λ_=>True) (λ_ _ _ _ _ _ _ _ _ _ _ _ _=>trivial) (λa b c ha hb hc=>by
  obtain⟨i,hi,rfl⟩:=NL ha
  obtain⟨k,hk,rfl⟩:=NL hb
  obtain⟨m,hm,rfl⟩:=NL hc
  rcases Nat.le_total i k with q1 | q1<;>rcases Nat.le_total k m with q2 | q2<;>rcases Nat.le_total i m with q3 | q3
  ·obtain⟨f,f0,f1,f2,f3⟩:=t i k m q1 q2 hm;exact⟨f,f0,f1,f2,f3⟩
  ·obtain⟨f,f0,f1,f2,f3⟩:=t i k m q1 q2 hm;exact⟨f,f0,f1,f2,f3⟩
  ·obtain⟨f,f0,f1,f2,f3⟩:=t i m k q3 q2 hk;exact⟨f,f0,f1,f3,f2⟩
  ·obtain⟨f,f0,f1,f2,f3⟩:=t m i k q3 q1 hk;exact⟨f,f0,f2,f3,f1⟩
  ·obtain⟨f,f0,f1,f2,f3⟩:=t k i m q1 q3 hm;exact⟨f,f0,f2,f1,f3⟩
  ·obtain⟨f,f0,f1,f2,f3⟩:=t k m i q2 q3 hi;exact⟨f,f0,f3,f1,f2⟩
  ·obtain⟨f,f0,f1,f2,f3⟩:=t m k i q2 q1 hi;exact⟨f,f0,f3,f2,f1⟩
  ·obtain⟨f,f0,f1,f2,f3⟩:=t m k i q2 q1 hi;exact⟨f,f0,f3,f2,f1⟩) (λa b ha hb=>by
  obtain⟨i,hi,rfl⟩:=NL ha
  obtain⟨k,hk,rfl⟩:=NL hb
  rcases Nat.le_total i k with q1 | q1
  ·obtain⟨f,f0,f1,f2,f3⟩:=t i i k (Nat.le_refl _) q1 hk;exact⟨f,f0,f1,f3,trivial⟩
  ·obtain⟨f,f0,f1,f2,f3⟩:=t k k i (Nat.le_refl _) q1 hi;exact⟨f,f0,f3,f1,trivial⟩) ⟨⟨0,0,1⟩,⟨Int.one_pos,Int.le_refl _⟩,trivial⟩
 exact BHY ho h1 h2
theorem COE{s:List Gau}(ho:∀g∈s,RK g)(ha:yD s){i k m:Nat}(h1:i<=k)(h2:k<=m)(h3:m<s.length)(h:Wd (gD s i) (gD s k) (gD s m)=false):¬Can s:=λ⟨x,x1,x2⟩=>by
 have o:∀i,i<s.length->(gD s i).lo<=(gD s i).hi:=λi hi=>(ho _ (CV hi)).2.2.2.1
 rw[(AON (o i (by omega)) (o k (by omega)) (o m h3) (ha i k h1 (by omega)) (ha k m h2 h3)).2 ⟨RA x,MM x1,x2 _ (CV (by omega)),x2 _ (CV (by omega)),x2 _ (CV h3)⟩] at h
 cases h
def WS(x:Gau)(l:List Gau):Nat->Nat
 |0=>0
 |n+1=>bif decide ((gD l n).st>x.st) then WS x l n else n+1
def insG(l:List Gau)(x:Gau):List Gau:=l.take (WS x l l.length) ++ x :: l.drop (WS x l l.length)
def FW(l:List Gau):List Gau:=l.foldl insG []
theorem AXQ(x:Gau)(l:List Gau):∀n,WS x l n<=n
 |0=>Nat.le_refl _
 |n+1=>by
  unfold WS
  cases decide ((gD l n).st>x.st)
  ·exact Nat.le_refl _
  ·have:=AXQ x l n;show WS x l n<=n+1;omega
theorem ATW(x:Gau)(l:List Gau):∀n,(∀i,WS x l n<=i->i<n->x.st<(gD l i).st)/\(0<WS x l n->(gD l (WS x l n-1)).st<=x.st)
 |0=>⟨λi _ h=>by omega,λh=>by have h:0<0:=h;omega⟩
 |n+1=>by
  unfold WS
  by_cases h:(gD l n).st>x.st
  ·rw[decide_eq_true h]
   obtain⟨h1,h2⟩:=ATW x l n
   refine⟨λi a b=>?_,h2⟩
   by_cases e:i=n
   ·rw[e];exact h
   ·exact h1 i a (by omega)
  ·rw[decide_eq_false h]
   exact⟨λi a b=>by have a:n+1<=i:=a;omega,λ_=>by show (gD l (n+1-1)).st<=_;rw[show n+1-1=n by omega];omega⟩
theorem ATV(l:List Gau)(x:Gau):(insG l x).Perm (x :: l):=by
 unfold insG
 have:=List.perm_middle (a:=x) (l₁:=l.take (WS x l l.length)) (l₂:=l.drop (WS x l l.length))
 rw[List.take_append_drop] at this;exact this
theorem ANA:∀(l a:List Gau),(l.foldl insG a).Perm (a ++ l)
 |[],a=>by simp
 |x :: l,a=>by
  refine (ANA l (insG a x)).trans ?_
  refine ((ATV a x).append_right l).trans ?_
  exact (List.perm_middle (a:=x) (l₁:=a) (l₂:=l)).symm
theorem LR(l:List Gau):(FW l).Perm l:=by have:=ANA l [];simpa[FW] using this
theorem CCF(l:List Gau)(x:Gau):(insG l x).length=l.length+1:=(ATV l x).length_eq
theorem AXE{l:List Gau}{x:Gau}{i:Nat}:gD (insG l x) i=if i<WS x l l.length then gD l i else if i=WS x l l.length then x else gD l (i-1):=by
 have hp:=AXQ x l l.length
 unfold insG
 rw[wV,List.length_take,Nat.min_eq_left hp]
 by_cases h1:i<WS x l l.length
 ·rw[if_pos h1,if_pos h1];simp[gD,List.getD_eq_getElem?_getD,List.getElem?_take,h1]
 ·rw[if_neg h1,if_neg h1]
  by_cases h2:i=WS x l l.length
  ·rw[if_pos h2,h2,Nat.sub_self];rfl
  ·rw[if_neg h2]
   obtain⟨j,hj⟩:∃j,i-WS x l l.length=j+1:=⟨i-WS x l l.length-1,by omega⟩
   rw[hj]
   show gD (l.drop (WS x l l.length)) j=_
   simp only[gD,List.getD_eq_getElem?_getD,List.getElem?_drop]
   rw[show WS x l l.length+j=i-1 by omega]
theorem CCD{l:List Gau}{x:Gau}(h:yD l):yD (insG l x):=λi j hij hj=>by
 rw[CCF] at hj
 have hp:=AXQ x l l.length
 obtain⟨s1,s2⟩:=ATW x l l.length
 rw[AXE,AXE]
 by_cases a1:i<WS x l l.length
 ·rw[if_pos a1]
  by_cases b1:j<WS x l l.length
  ·rw[if_pos b1];exact h i j hij (by omega)
  ·rw[if_neg b1]
   have h3:=h i (WS x l l.length-1) (by omega) (by omega)
   have h4:=s2 (by omega)
   by_cases b2:j=WS x l l.length
   ·rw[if_pos b2];omega
   ·rw[if_neg b2]
    have:=s1 (j-1) (by omega) (by omega);omega
 ·rw[if_neg a1,if_neg (show ¬j<WS x l l.length by omega)]
  by_cases a2:i=WS x l l.length
  ·rw[if_pos a2]
   by_cases b2:j=WS x l l.length
   ·rw[if_pos b2];exact Int.le_refl _
   ·rw[if_neg b2]
    have:=s1 (j-1) (by omega) (by omega);omega
  ·rw[if_neg a2,if_neg (show ¬j=WS x l l.length by omega)]
   exact h (i-1) (j-1) (by omega) (by omega)
theorem ATA:∀(l a:List Gau),yD a->yD (l.foldl insG a)
 |[],a,h=>h
 |x :: l,a,h=>ATA l (insG a x) (CCD h)
theorem rC(l:List Gau):yD (FW l):=ATA l [] λi j _ h=>by have h:j<0:=h;omega
theorem BVL(l:List Gau):Can (FW l)↔Can l:=⟨λh=>h.mono λg hg=>(LR l).mem_iff.2 hg,λh=>h.mono λg hg=>(LR l).mem_iff.1 hg⟩
end Go.Bal

namespace Go.Bal
open Go Go.Sym Go.Proofs
def qF(s:List Gau):Bool:=(DC s).2
theorem vT{s:List Gau}(hs:∀g∈s,RK g):qF s=true↔Can s:=(bY hs).1
theorem BUG{s:List Gau}(ho:∀g∈s,RK g)(ha:yD s){i k m:Nat}(h1:i<=k)(h2:k<=m)(h3:m<s.length)(h:Wd (gD s i) (gD s k) (gD s m)=false):qF s=false:=by
 cases hp:qF s with
 |false=>rfl
 |true=>exact absurd ((vT ho).1 hp) (COE ho ha h1 h2 h3 h)
def BMX(s:List Gau)(i k m:Nat):Prop:=∀a b c,a<=b->b<=c->c<s.length->(a<i∨a=i/\(b<k∨b=k/\c<m))->Wd (gD s a) (gD s b) (gD s c)=true
theorem BRY{s:List Gau}(ho:∀g∈s,RK g)(ha:yD s)(h:BMX s s.length 0 0):qF s=true:=(vT ho).2 (CHH ho ha λi k m h1 h2 h3=>h i k m h1 h2 h3 (.inl (by omega)))
structure MaxR(S Q:Rt->Prop)(r:Rt):Prop where
 low:lowR r
 b:0<=r.n/\r.n<=1000000000/\r.d<=2000
 all:∀x,S x->0<x.d/\Mq x r
 is:r=⟨0,1⟩∨∃x,Q x/\0<x.d/\r.n*x.d=x.n*r.d
structure MinR(S Q:Rt->Prop)(r:Rt):Prop where
 low:lowR r
 b:-1000000000<=r.n/\r.n<=200000*r.d/\r.d<=2000
 all:∀x,S x->0<x.d/\Mq r x
 is:r=⟨200000,1⟩∨∃x,Q x/\0<x.d/\r.n*x.d=x.n*r.d
structure Frc(x v:Rt):Prop where
 low:lowR v
 d:0<x.d
 e:v.n*x.d=x.n*v.d
 b:-1000000000<=v.n/\v.n<=1000000000/\v.d<=2000
theorem BPG{a d:Int}(h1:-1000000000<=a/\a<=1000000000)(h2:0<d/\d<=2000):-2000000000000<=a*d/\a*d<=2000000000000:=by
 constructor
 ·have e1:=Int.mul_le_mul_of_nonneg_right h1.1 (show 0<=d by omega)
  omega
 ·have e1:=Int.mul_le_mul_of_nonneg_right h1.2 (show 0<=d by omega)
  omega
theorem AZW{a b:Rt}(ha:-1000000000<=a.n/\a.n<=1000000000)(hb:-1000000000<=b.n/\b.n<=1000000000)(da:0<a.d/\a.d<=2000)(db:0<b.d/\b.d<=2000):decide (wr (a.n*b.d)<wr (b.n*a.d))=decide (a.n*b.d<b.n*a.d):=by
 have e1:=BPG ha db
 have e2:=BPG hb da
 rw[show wr (a.n*b.d)=a.n*b.d from JH (by omega) (by omega),show wr (b.n*a.d)=b.n*a.d from JH (by omega) (by omega)]
theorem BOD{x v r:Rt}(hx:0<x.d)(hv:0<v.d)(e:v.n*x.d=x.n*v.d):Mq v r↔Mq x r:=by
 unfold Mq
 constructor
 ·intro h
  refine Int.le_of_mul_le_mul_right (?_:_*v.d<=_*v.d) hv
  have:=Int.mul_le_mul_of_nonneg_right h (Int.le_of_lt hx)
  have e1:x.n*r.d*v.d=v.n*r.d*x.d:=by
   have:x.n*r.d*v.d=x.n*v.d*r.d:=by grind
   rw[this,<-e];grind
  have e2:r.n*x.d*v.d=r.n*v.d*x.d:=by grind
  omega
 ·intro h
  refine Int.le_of_mul_le_mul_right (?_:_*x.d<=_*x.d) hx
  have:=Int.mul_le_mul_of_nonneg_right h (Int.le_of_lt hv)
  have e1:v.n*r.d*x.d=x.n*r.d*v.d:=by
   have:v.n*r.d*x.d=v.n*x.d*r.d:=by grind
   rw[this,e];grind
  have e2:r.n*v.d*x.d=r.n*x.d*v.d:=by grind
  omega
theorem BBN{x v r:Rt}(hx:0<x.d)(hv:0<v.d)(e:v.n*x.d=x.n*v.d):Mq r v↔Mq r x:=by
 unfold Mq
 constructor
 ·intro h
  refine Int.le_of_mul_le_mul_right (?_:_*v.d<=_*v.d) hv
  have:=Int.mul_le_mul_of_nonneg_right h (Int.le_of_lt hx)
  have e1:x.n*r.d*v.d=v.n*r.d*x.d:=by
   have:x.n*r.d*v.d=x.n*v.d*r.d:=by grind
   rw[this,<-e];grind
  have e2:r.n*x.d*v.d=r.n*v.d*x.d:=by grind
  omega
 ·intro h
  refine Int.le_of_mul_le_mul_right (?_:_*x.d<=_*x.d) hx
  have:=Int.mul_le_mul_of_nonneg_right h (Int.le_of_lt hv)
  have e1:v.n*r.d*x.d=x.n*r.d*v.d:=by
   have:v.n*r.d*x.d=v.n*x.d*r.d:=by grind
   rw[this,e];grind
  have e2:r.n*v.d*x.d=r.n*x.d*v.d:=by grind
  omega
theorem MaxR.weak{S T Q:Rt->Prop}{r:Rt}(h:MaxR S Q r)(hs:∀x,T x->S x):MaxR T Q r:=⟨h.low,h.b,λx hx=>h.all x (hs x hx),h.is⟩
theorem MinR.weak{S T Q:Rt->Prop}{r:Rt}(h:MinR S Q r)(hs:∀x,T x->S x):MinR T Q r:=⟨h.low,h.b,λx hx=>h.all x (hs x hx),h.is⟩
theorem MaxR.take{S Q:Rt->Prop}{r x v:Rt}(h:MaxR S Q r)(hv:Frc x v)(hq:Q x)(hb:decide (wr (r.n*v.d)<wr (v.n*r.d))=true):MaxR (λy=>S y∨y=x) Q v:=by
 have h0:=h.low.1
 have v0:=hv.low.1
 obtain⟨b1,b2,b3⟩:=h.b
 obtain⟨c1,c2,c3⟩:=hv.b
 rw[AZW (by omega) (by omega) (by omega) (by omega),decide_eq_true_eq] at hb
 have hp:0<=v.n:=by
  have:0<=r.n*v.d:=Int.mul_nonneg b1 (by omega)
  have:0<v.n*r.d:=by omega
  exact Classical.byContradiction λhc=>by
   have:=Int.mul_le_mul_of_nonneg_right (show v.n<=0 by omega) (show 0<=r.d by omega)
   omega
 refine⟨hv.low,⟨hp,c2,c3⟩,λy hy=>?_,.inr ⟨x,hq,hv.d,hv.e⟩⟩
 rcases hy with hy | rfl
 ·obtain⟨y1,y2⟩:=h.all y hy
  exact⟨y1,NE (Int.le_of_lt y1) h0 (Int.le_of_lt v0) y2 (Int.le_of_lt hb)⟩
 ·exact⟨hv.d,(BOD hv.d v0 hv.e).1 (ABT v)⟩
theorem MaxR.keep{S Q:Rt->Prop}{r x v:Rt}(h:MaxR S Q r)(hv:Frc x v)(hb:decide (wr (r.n*v.d)<wr (v.n*r.d))=false):MaxR (λy=>S y∨y=x) Q r:=by
 have h0:=h.low.1
 have v0:=hv.low.1
 obtain⟨b1,b2,b3⟩:=h.b
 obtain⟨c1,c2,c3⟩:=hv.b
 rw[AZW (by omega) (by omega) (by omega) (by omega),decide_eq_false_iff_not] at hb
 refine⟨h.low,h.b,λy hy=>?_,h.is⟩
 rcases hy with hy | rfl
 ·exact h.all y hy
 ·exact⟨hv.d,(BOD hv.d v0 hv.e).1 (Int.not_lt.1 hb)⟩
theorem MinR.take{S Q:Rt->Prop}{r x v:Rt}(h:MinR S Q r)(hv:Frc x v)(hq:Q x)(hb:decide (wr (v.n*r.d)<wr (r.n*v.d))=true):MinR (λy=>S y∨y=x) Q v:=by
 have h0:=h.low.1
 have v0:=hv.low.1
 obtain⟨b1,b2,b3⟩:=h.b
 obtain⟨c1,c2,c3⟩:=hv.b
 rw[AZW (by omega) (by omega) (by omega) (by omega),decide_eq_true_eq] at hb
 have hp:v.n<=200000*v.d:=by
  have e1:=Int.mul_le_mul_of_nonneg_right b2 (Int.le_of_lt v0)
  have e2:200000*r.d*v.d=200000*v.d*r.d:=by grind
  exact Int.le_of_mul_le_mul_right (show v.n*r.d<=200000*v.d*r.d by omega) h0
 refine⟨hv.low,⟨c1,hp,c3⟩,λy hy=>?_,.inr ⟨x,hq,hv.d,hv.e⟩⟩
 rcases hy with hy | rfl
 ·obtain⟨y1,y2⟩:=h.all y hy
  exact⟨y1,NE (Int.le_of_lt v0) h0 (Int.le_of_lt y1) (Int.le_of_lt hb) y2⟩
 ·exact⟨hv.d,(BBN hv.d v0 hv.e).1 (ABT v)⟩
theorem MinR.keep{S Q:Rt->Prop}{r x v:Rt}(h:MinR S Q r)(hv:Frc x v)(hb:decide (wr (v.n*r.d)<wr (r.n*v.d))=false):MinR (λy=>S y∨y=x) Q r:=by
 have h0:=h.low.1
 have v0:=hv.low.1
 obtain⟨b1,b2,b3⟩:=h.b
 obtain⟨c1,c2,c3⟩:=hv.b
 rw[AZW (by omega) (by omega) (by omega) (by omega),decide_eq_false_iff_not] at hb
 refine⟨h.low,h.b,λy hy=>?_,h.is⟩
 rcases hy with hy | rfl
 ·exact h.all y hy
 ·exact⟨hv.d,(BBN hv.d v0 hv.e).1 (Int.not_lt.1 hb)⟩
def qW(l:List Gau)(b:List Int)(k:Int):List Gau:=FW (PH l b k)
theorem BTB{l:List Gau}{b:List Int}{k:Int}{x:Gau}:x∈qW l b k↔x∈PH l b k:=(LR _).mem_iff
theorem BLJ{l:List Gau}{b:List Int}{k:Int}(ho:∀g∈l,RK g):∀g∈qW l b k,RK g:=λg hg=>xM ho g (BTB.1 hg)
theorem BSL(l:List Gau)(b:List Int)(k:Int):yD (qW l b k):=rC _
theorem CDB(l:List Gau)(b:List Int)(k:Int):Can (qW l b k)↔Can (PH l b k):=BVL _
theorem BQJ{l:List Gau}{b:List Int}{k:Int}(ho:∀g∈l,RK g):qF (qW l b k)=true↔Can (PH l b k):=(vT (BLJ ho)).trans (CDB l b k)
theorem BYQ(l:List Gau)(b:List Int)(k:Int):(qW l b k).length<=l.length:=by
 unfold qW PH Ja PB
 rw[(LR _).length_eq];exact List.length_filter_le _ _
theorem CNV{a:GB}(h:EG a=0):∀g∈a.g,RK g:=(xY h).2.1
end Go.Bal


namespace Go.Bal
open Go Go.Sym Go.Proofs
structure G3 where
 a:Gau
 b:Gau
 c:Gau
def dG3:List AVal->Option G3
 |[.d (.agg [.v (.int .i64 a),.v (.int .i64 b),.v (.int .i64 c)]),.d (.agg [.v (.int .i64 d),.v (.int .i64 e),.v (.int .i64 f)]),.d (.agg [.v (.int .i64 g),.v (.int .i64 h),.v (.int .i64 i)])]=>some ⟨⟨a,b,c⟩,⟨d,e,f⟩,⟨g,h,i⟩⟩
 |_=>none
def xG3(x:G3):List AVal:=[.d (jI x.a),.d (jI x.b),.d (jI x.c)]
theorem hG3(xs:List AVal)(a:G3)(h:dG3 xs=some a):xs=xG3 a:=by
 unfold dG3 at h;split at h<;>cases h;rfl
def BGQ:=pD dG3 (λx=>.bool (Wd x.a x.b x.c)) λx=>[RK x.a/\RK x.b/\RK x.c]
def CAY(x:G3):Prop:=BQ Try.prog (ann 166 []) BIM (AI BIM) (xG3 x) (AD []) (.bool (Wd x.a x.b x.c)) [] [] []
abbrev jH:=G3.a
abbrev SW:=G3.c
abbrev Gk a:=EE (jH a)
abbrev AQC a b:=HA a (Gk b)
abbrev Lf a:=EE (SW a)
abbrev oC a b:=AQC (Lf a) b
abbrev dO a b c:=QS a (oC b c)
abbrev dQ a:=EE (G3.b a)
abbrev Vf a:=DP (SW a)
abbrev aO a b:=minI (DP a) b
abbrev sS a b:=qQ (EC a) b
abbrev AYF a b:=sS a (EC b)
abbrev tF a:=EC (jH a)
abbrev An a b c:=Wd (jH a) (G3.b b) (SW c)
abbrev eW a b:=OL a (Lf b)
abbrev R7 a b:=AYF a (G3.b b)
abbrev nK a b:=aO a (DP (G3.b b))
abbrev uB a:=DG (Ba a a)
abbrev Jd a b:=R7 (jH a) b
abbrev Ru a b:=nK (jH a) b
attribute [go_sem] jH SW Gk AQC Lf oC dO dQ Vf aO sS AYF tF An eW R7 nK uB Jd Ru
theorem CHU(x:G3):(CAY x)=(CS (OL (Gk x) (dQ x)) (CS (eW (Gk x) x) (CS (eW (Gk x) x) (Mj (An x x x) (sS (SW x) (Jd x x)) (aO (SW x) (Ru x x))) (Fh (TZ (KO (Jd x x) (Ru x x)) (KO (sS (SW x) (Jd x x)) (aO (SW x) (Ru x x))) (KO (Jd x x) (aO (SW x) (Ru x x)))) (An x x x) (CS (MS (OL (Lf x) (Gk x)) (Ya (Lf x))) (EL (An x x x)) (WZ (An x x x) (F3 (XE (Jd x x) (uB (Lf x)) (qQ (Jd x x) (sS (SW x) (Jd x x))) (oC x x)) (dO (aO (SW x) (Ru x x)) x x)) (hd6 (XE (minI (Ru x x) (aO (SW x) (Ru x x))) (uB (Lf x)) (aO (SW x) (Ru x x)) (oC x x)) (dO (sS (SW x) (Jd x x)) x x)))))) (CS (eW (Gk x) x) (Mj (An x x x) (EC (SW x)) (Vf x)) (Fh (TZ (KO (Jd x x) (Ru x x)) (KO (EC (SW x)) (Vf x)) (KO (Jd x x) (Vf x))) (An x x x) (CS (MS (Ya (Gk x)) (eW (Gk x) x)) (EL (An x x x)) (WZ (An x x x) (F3 (XE (Jd x x) (oC x x) (qQ (Jd x x) (EC (SW x))) (uB (Gk x))) (dO (Ru x x) x x)) (hd6 (XE (minI (Ru x x) (Vf x)) (oC x x) (Vf x) (uB (Gk x))) (dO (Jd x x) x x))))))) (CS (eW (dQ x) x) (CS (eW (Gk x) x) (Mj (An x x x) (R7 (SW x) x) (nK (SW x) x)) (Fh (TZ (KO (tF x) (DP (jH x))) (KO (R7 (SW x) x) (nK (SW x) x)) (KO (tF x) (nK (SW x) x))) (An x x x) (CS (MS (OL (Lf x) (Gk x)) (Ya (Lf x))) (EL (An x x x)) (WZ (An x x x) (F3 (XE (tF x) (uB (Lf x)) (sS (jH x) (R7 (SW x) x)) (oC x x)) (dO (nK (SW x) x) x x)) (hd6 (XE (aO (jH x) (nK (SW x) x)) (uB (Lf x)) (nK (SW x) x) (oC x x)) (dO (R7 (SW x) x) x x)))))) (CS (eW (Gk x) x) (Mj (An x x x) (EC (SW x)) (Vf x)) (Fh (TZ (KO (tF x) (DP (jH x))) (KO (EC (SW x)) (Vf x)) (KO (tF x) (Vf x))) (An x x x) (CS (MS (OL (dQ x) (Gk x)) (eW (dQ x) x)) (EL (An x x x)) (WZ (An x x x) (F3 (XE (tF x) (HA (Lf x) (dQ x)) (AYF (jH x) (SW x)) (AQC (dQ x) x)) (dO (DP (G3.b x)) x x)) (hd6 (XE (aO (jH x) (Vf x)) (HA (Lf x) (dQ x)) (Vf x) (AQC (dQ x) x)) (dO (EC (G3.b x)) x x)))))))):=by kernel_rfl
def C_rAsk:Ctr:={ α:=GB,xs:=xGB,val:=λx=>.int (EG x),pre:=λx=>[x.g.length<1073741824/\x.b.length<1073741824] }
def BZZ(x:GB):Prop:=BQ Try.prog (ann 13 [(Tc,C_rCheck.spec WJ),(ABZ,C_rBrok.spec dIs1)]) ARC (AI ARC) (xGB x) (AD []) (.int (EG x)) [] [] []
abbrev Ur a:=II (CI a)
attribute [go_sem] Ur
theorem CHG(x:GB):(BZZ x)=(QP (AW (TJ x) (WE x)) (UG x) (Ur (TJ x)) (YR (FI (bM x)) (SZ x) (bM x) (QP (UA x) (UB x) (SL (TE x)) (AO (SZ x) (Es (TE x)))))):=by kernel_rfl
theorem BKL(a b:Int):qQ a b=max a b:=by unfold qQ;split<;>omega
theorem CIQ(a b:Int):minI a b=min a b:=by unfold minI;split<;>omega
theorem ARH{v d:Int}(hv:0<=v/\v<=200000)(hd:-2000<=d/\d<=2000):-400000000<=v*d/\v*d<=400000000:=by
 have e1:=Int.mul_le_mul_of_nonneg_left hd.1 hv.1
 have e2:=Int.mul_le_mul_of_nonneg_left hd.2 hv.1
 omega
theorem ATR{v d:Int}(hv:0<=v/\v<=200000)(hd:-2000<=d/\d<=2000):IntKind.i64.wrap (v*d)=v*d:=by
 have:=ARH hv hd
 exact JH (by omega) (by omega)
theorem CDC{a b c:Gau}(ha:RK a)(hb:RK b)(hc:RK c)(h1:(a.st==b.st)=false)(h2:(b.st==c.st)=false)(h3:(a.st==c.st)=false)(h4:(bif bif decide (a.lo>a.hi) then true else decide (c.lo>c.hi) then true else decide (a.lo>c.hi))=false)(h5:(bif b.st==a.st then true else b.st==c.st)=false):Wd a b c=bif decide (IntKind.i64.wrap (IntKind.i64.wrap (a.lo*IntKind.i64.wrap (c.st-b.st))+IntKind.i64.wrap (max a.lo c.lo*IntKind.i64.wrap (b.st-a.st)))<=IntKind.i64.wrap (b.hi*IntKind.i64.wrap (c.st-a.st))) then decide (IntKind.i64.wrap (IntKind.i64.wrap (min a.hi c.hi*IntKind.i64.wrap (c.st-b.st))+IntKind.i64.wrap (c.hi*IntKind.i64.wrap (b.st-a.st)))>=IntKind.i64.wrap (b.lo*IntKind.i64.wrap (c.st-a.st))) else false:=by
 obtain⟨a1,a2,a3,a4,a5⟩:=ha
 obtain⟨b1,b2,b3,b4,b5⟩:=hb
 obtain⟨c1,c2,c3,c4,c5⟩:=hc
 rw[show IntKind.i64.wrap (c.st-b.st)=c.st-b.st from JH (by omega) (by omega),show IntKind.i64.wrap (b.st-a.st)=b.st-a.st from JH (by omega) (by omega),show IntKind.i64.wrap (c.st-a.st)=c.st-a.st from JH (by omega) (by omega)]
 rw[ATR (v:=a.lo) (d:=c.st-b.st) (by omega) (by omega),ATR (v:=max a.lo c.lo) (d:=b.st-a.st) (by omega) (by omega),ATR (v:=b.hi) (d:=c.st-a.st) (by omega) (by omega),ATR (v:=min a.hi c.hi) (d:=c.st-b.st) (by omega) (by omega),ATR (v:=c.hi) (d:=b.st-a.st) (by omega) (by omega),ATR (v:=b.lo) (d:=c.st-a.st) (by omega) (by omega)]
 have m1:=ARH (v:=a.lo) (d:=c.st-b.st) (by omega) (by omega)
 have m2:=ARH (v:=max a.lo c.lo) (d:=b.st-a.st) (by omega) (by omega)
 have m3:=ARH (v:=min a.hi c.hi) (d:=c.st-b.st) (by omega) (by omega)
 have m4:=ARH (v:=c.hi) (d:=b.st-a.st) (by omega) (by omega)
 rw[JH (n:=a.lo*(c.st-b.st)+max a.lo c.lo*(b.st-a.st)) (by omega) (by omega),JH (n:=min a.hi c.hi*(c.st-b.st)+c.hi*(b.st-a.st)) (by omega) (by omega)]
 unfold Wd thrA thrB kL thrC N1
 rw[h2] at h5
 simp only[h1,h2,h3,cond_false,h4,h5]
theorem BNL:AJ Try.prog BAG BGQ:=UX xG3 hG3 λx h=>Mn (A:=ann 166 []) (ren:=[]) (fz:=[]) CEY (by kernel_rfl) AE (by
 show CAY x;rw[CHU]<;> delta JT qD hd6 F3 XL EE EC DP JG CS KO LX Ba mT OL jH SW DG FF Ya HA qJ EL FU MS QS LC Lf Gk aO TZ sS AYF oF R7 nK Fh AQC XE An oC Jd Ru Vf WZ dQ eW dO Mj uB tF;simp only[CC,eq_self,implies_true,forall_const,BKL,CIQ]
 obtain⟨ha,hb,hc⟩:RK x.a/\RK x.b/\RK x.c:=h
 refine⟨λh1=>⟨λh2=>⟨λh3=>?_,λh3=>(by rw[h2] at h3;cases h3)⟩,λh2=>⟨λh3=>(by rw[h2] at h3;cases h3),λ_=>⟨λh4=>?_,λh4=>?_⟩⟩⟩,λh1=>⟨λh2=>⟨λh3=>?_,λh3=>⟨λh4=>?_,λh4=>⟨λh5=>?_,λh5=>?_⟩⟩⟩,λh2=>⟨λh3=>?_,λh3=>⟨λh4=>?_,λh4=>⟨λh5=>?_,λh5=>?_⟩⟩⟩⟩⟩
 ·unfold Wd thrA thrB kL thrC N1 Ei;simp only[h1,h2,cond_true,cond_false]
 ·unfold Wd thrA thrB kL thrC N1 Ei;simp only[h1,h2,cond_true,cond_false];simp only[h2,cond_true,cond_false,h4]
 ·unfold Wd thrA thrB kL thrC N1 Ei;simp only[h1,h2,cond_true,cond_false,beq_self_eq_true];simp only[h2,cond_true,cond_false,h4];exact⟨λ_=>trivial,λh=>(by cases h)⟩
 ·unfold Wd thrA thrB kL thrC N1 Ei;simp only[h1,h2,cond_true,cond_false];simp only[h3,cond_true,cond_false]
 ·unfold Wd thrA thrB kL thrC N1 Ei;simp only[h1,h2,cond_true,cond_false];simp only[h3,h4,cond_true,cond_false]
 ·unfold Wd thrA thrB kL thrC N1 Ei;simp only[h1,h2,cond_true,cond_false];simp only[h3,h4,h5,cond_true,cond_false]
 ·simp at h5
 ·unfold Wd thrA thrB kL thrC N1 Ei;simp only[h1,h2,cond_true,cond_false];simp only[h3,cond_true,cond_false]
 ·unfold Wd thrA thrB kL thrC N1 Ei;simp only[h1,h2,cond_true,cond_false];simp only[h3,h4,cond_true,cond_false]
 ·rw[h2] at h5;unfold Wd thrA thrB kL thrC N1 Ei;simp only[h1,h2,cond_true,cond_false];simp only[h3,h4,h5,cond_true,cond_false]
 ·exact CDC ha hb hc h1 h2 h3 h4 h5)
theorem CER:AJ Try.prog AQW (C_rAsk.spec dGB):=VD C_rAsk (λ_=>ann 13 [(Tc,C_rCheck.spec WJ),(ABZ,C_rBrok.spec dIs1)]) [] [] BRD (λ_=>by kernel_rfl) (λ_=>AC kM (AC BCR AE)) (λ(x:GB) h=>by
 show BZZ x;rw[CHG]<;> delta EE EC DP WI CS AO AR CG AK BV BZ CM NK CI EZ LZ FP Ep Es WE Jl SZ AG GT JO GV IE AT AH CA CF BH CT TJ TE AP BR AS AW DF DX CR IC AN EP GI AY GC II HG EM GH IH FE BM EW FM FK SL NT ER DY FI Ur Md Ll Kn QP YR UB UA UG bM;simp only[CC,eq_self,implies_true,forall_const]
 obtain⟨h1,h2⟩:x.g.length<1073741824/\x.b.length<1073741824:=h
 refine⟨h1,λhc=>?_,λhc=>⟨h2,?_⟩⟩
 ·unfold EG;rw[show (AV x.g==0)=false by simpa using hc];rfl
 ·unfold EG;rw[show (AV x.g==0)=true by simpa using hc];rfl) (λ_=>WK rfl rfl) _
end Go.Bal
