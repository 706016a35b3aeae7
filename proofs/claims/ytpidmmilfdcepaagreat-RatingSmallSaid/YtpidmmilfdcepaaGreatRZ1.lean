/- Package rating: sets of lines, any three of which have a line in common (no program in sight). -/
import Derived.Test.YtpidmmilfdcepaaGreatRT5
set_option linter.unusedVariables false
set_option linter.unusedSimpArgs false
namespace Go.Bal
open Go Go.Sym Go.Proofs
def Cv(A:Rl->Prop):Prop:=∀(a b c d:Int) (f g h k:Rl),(0<=a/\0<=b/\0<=c/\0<=d)->(a=0∨A f)->(b=0∨A g)->(c=0∨A h)->(d=0∨A k)->A (cmb a b c d f g h k)
theorem CJO(s:List Gau):Cv λf=>f.passes s:=λ_ _ _ _ _ _ _ _ p h1 h2 h3 h4=>Ek p h1 h2 h3 h4
theorem Cv.and{A B:Rl->Prop}(hA:Cv A)(hB:Cv B):Cv λf=>A f/\B f:=λa b c d f g h k p h1 h2 h3 h4=>
 ⟨hA a b c d f g h k p (h1.imp id λh=>h.1) (h2.imp id λh=>h.1) (h3.imp id λh=>h.1) (h4.imp id λh=>h.1),hB a b c d f g h k p (h1.imp id λh=>h.2) (h2.imp id λh=>h.2) (h3.imp id λh=>h.2) (h4.imp id λh=>h.2)⟩
def leA(t n m:Int)(f:Rl):Prop:=f.num t*m<=n*f.w
def geA(t n m:Int)(f:Rl):Prop:=n*f.w<=f.num t*m
theorem AWI{a:Int}{f:Rl}{t n m:Int}(ha:0<=a)(h:a=0∨leA t n m f):a*(f.num t*m)<=a*(n*f.w):=by
 rcases h with rfl | h
 ·simp
 ·exact Int.mul_le_mul_of_nonneg_left h ha
theorem AZC{a:Int}{f:Rl}{t n m:Int}(ha:0<=a)(h:a=0∨geA t n m f):a*(n*f.w)<=a*(f.num t*m):=by
 rcases h with rfl | h
 ·simp
 ·exact Int.mul_le_mul_of_nonneg_left h ha
theorem CXM(t n m:Int):Cv (leA t n m):=λa b c d f g h k p h1 h2 h3 h4=>by
 have q1:=AWI p.1 h1
 have q2:=AWI p.2.1 h2
 have q3:=AWI p.2.2.1 h3
 have q4:=AWI p.2.2.2 h4
 unfold leA
 rw[AJJ]
 show _<=n*(a*f.w+b*g.w+c*h.w+d*k.w)
 have e1:(a*f.num t+b*g.num t+c*h.num t+d*k.num t)*m=a*(f.num t*m)+b*(g.num t*m)+c*(h.num t*m)+d*(k.num t*m):=by grind
 have e2:n*(a*f.w+b*g.w+c*h.w+d*k.w)=a*(n*f.w)+b*(n*g.w)+c*(n*h.w)+d*(n*k.w):=by grind
 omega
theorem DBS(t n m:Int):Cv (geA t n m):=λa b c d f g h k p h1 h2 h3 h4=>by
 have q1:=AZC p.1 h1
 have q2:=AZC p.2.1 h2
 have q3:=AZC p.2.2.1 h3
 have q4:=AZC p.2.2.2 h4
 unfold geA
 rw[AJJ]
 show n*(a*f.w+b*g.w+c*h.w+d*k.w)<=_
 have e1:(a*f.num t+b*g.num t+c*h.num t+d*k.num t)*m=a*(f.num t*m)+b*(g.num t*m)+c*(h.num t*m)+d*(k.num t*m):=by grind
 have e2:n*(a*f.w+b*g.w+c*h.w+d*k.w)=a*(n*f.w)+b*(n*g.w)+c*(n*h.w)+d*(n*k.w):=by grind
 omega
theorem CHJ{A B C D:Rl->Prop}(cA:Cv A)(cB:Cv B)(cC:Cv C)(cD:Cv D){f g h k:Rl}(hf:f.ok)(hg:g.ok)(hh:h.ok)(hk:k.ok)(f2:B f)(f3:C f)(f4:D f)(g1:A g)(g3:C g)(g4:D g)(h1:A h)(h2:B h)(h4:D h)(k1:A k)(k2:B k)(k3:C k):∃x:Rl,x.ok/\A x/\B x/\C x/\D x:=by
 obtain⟨a,b,c,d,hn,e⟩:=rel4 f g h k hf.1
 have e:=ARO e
 obtain⟨_,pa,na,pa0,na0,pa1,na1⟩:=pneg a
 obtain⟨_,pb,nb,pb0,nb0,pb1,nb1⟩:=pneg b
 obtain⟨_,pc,nc,pc0,nc0,pc1,nc1⟩:=pneg c
 obtain⟨_,pd,nd,pd0,nd0,pd1,nd1⟩:=pneg d
 have P:0<=C6 a/\0<=C6 b/\0<=C6 c/\0<=C6 d:=⟨pa,pb,pc,pd⟩
 have N:0<=neI a/\0<=neI b/\0<=neI c/\0<=neI d:=⟨na,nb,nc,nd⟩
 refine⟨cmb (C6 a) (C6 b) (C6 c) (C6 d) f g h k,?_,?_,?_,?_,?_⟩
 ·by_cases hq:0<C6 a∨0<C6 b∨0<C6 c∨0<C6 d
  ·exact ADY P hq hf hg hh hk
  ·rw[e]
   refine ADY N ?_ hf hg hh hk
   have z1:¬0<a:=λh=>hq (.inl (pa1 h))
   have z2:¬0<b:=λh=>hq (.inr (.inl (pb1 h)))
   have z3:¬0<c:=λh=>hq (.inr (.inr (.inl (pc1 h))))
   have z4:¬0<d:=λh=>hq (.inr (.inr (.inr (pd1 h))))
   by_cases y1:a<0
   ·exact .inl (na1 y1)
   ·by_cases y2:b<0
    ·exact .inr (.inl (nb1 y2))
    ·by_cases y3:c<0
     ·exact .inr (.inr (.inl (nc1 y3)))
     ·exact .inr (.inr (.inr (nd1 (by omega))))
 ·by_cases hc:a<=0
  ·exact cA _ _ _ _ _ _ _ _ P (.inl (pa0 hc)) (.inr g1) (.inr h1) (.inr k1)
  ·rw[e];exact cA _ _ _ _ _ _ _ _ N (.inl (na0 (by omega))) (.inr g1) (.inr h1) (.inr k1)
 ·by_cases hc:b<=0
  ·exact cB _ _ _ _ _ _ _ _ P (.inr f2) (.inl (pb0 hc)) (.inr h2) (.inr k2)
  ·rw[e];exact cB _ _ _ _ _ _ _ _ N (.inr f2) (.inl (nb0 (by omega))) (.inr h2) (.inr k2)
 ·by_cases hc:c<=0
  ·exact cC _ _ _ _ _ _ _ _ P (.inr f3) (.inr g3) (.inl (pc0 hc)) (.inr k3)
  ·rw[e];exact cC _ _ _ _ _ _ _ _ N (.inr f3) (.inr g3) (.inl (nc0 (by omega))) (.inr k3)
 ·by_cases hc:d<=0
  ·exact cD _ _ _ _ _ _ _ _ P (.inr f4) (.inr g4) (.inr h4) (.inl (pd0 hc))
  ·rw[e];exact cD _ _ _ _ _ _ _ _ N (.inr f4) (.inr g4) (.inr h4) (.inl (nd0 (by omega)))
theorem BPL:∀(n:Nat) (L:List (Rl->Prop)),L.length=n->(∀A∈L,Cv A)->(∀A B C,A∈L->B∈L->C∈L->∃x:Rl,x.ok/\A x/\B x/\C x)->∃x:Rl,x.ok/\∀A∈L,A x
 |_,[],_,_,_=>⟨⟨0,0,1⟩,⟨Int.one_pos,Int.le_refl _⟩,λA hA=>by cases hA⟩
 |_,[A],_,_,h=>by
  obtain⟨x,h1,h2,_⟩:=h A A A (by simp) (by simp) (by simp)
  exact⟨x,h1,λX hX=>by rw[List.mem_singleton.1 hX];exact h2⟩
 |0,A :: B :: R,hl,_,_=>by simp at hl
 |n+1,A :: B :: R,hl,hc,h=>by
  have mA:A∈A :: B :: R:=by simp
  have mB:B∈A :: B :: R:=by simp
  have q:∀Y Z,Y∈A :: B :: R->Z∈A :: B :: R->∃x:Rl,x.ok/\A x/\B x/\Y x/\Z x:=λY Z hY hZ=>by
   obtain⟨f,hf,f2,f3,f4⟩:=h B Y Z mB hY hZ
   obtain⟨g,hg,g1,g3,g4⟩:=h A Y Z mA hY hZ
   obtain⟨h',hh,h1,h2,h4⟩:=h A B Z mA mB hZ
   obtain⟨k,hk,k1,k2,k3⟩:=h A B Y mA mB hY
   exact CHJ (hc A mA) (hc B mB) (hc Y hY) (hc Z hZ) hf hg hh hk f2 f3 f4 g1 g3 g4 h1 h2 h4 k1 k2 k3
  have up:∀X,X∈R->X∈A :: B :: R:=λX hX=>List.mem_cons_of_mem _ (List.mem_cons_of_mem _ hX)
  obtain⟨x,h1,h2⟩:=BPL n ((λf=>A f/\B f) :: R) (by simp at hl ⊢;omega) (λX hX=>by
   rcases List.mem_cons.1 hX with rfl | hX
   ·exact (hc A mA).and (hc B mB)
   ·exact hc X (up X hX)) λX Y Z hX hY hZ=>by
   rcases List.mem_cons.1 hX with rfl | hX<;>rcases List.mem_cons.1 hY with rfl | hY<;>rcases List.mem_cons.1 hZ with rfl | hZ
   ·obtain⟨x,a1,a2,a3,_⟩:=q A A mA mA
    exact⟨x,a1,⟨a2,a3⟩,⟨a2,a3⟩,⟨a2,a3⟩⟩
   ·obtain⟨x,a1,a2,a3,a4,_⟩:=q Z Z (up Z hZ) (up Z hZ)
    exact⟨x,a1,⟨a2,a3⟩,⟨a2,a3⟩,a4⟩
   ·obtain⟨x,a1,a2,a3,a4,_⟩:=q Y Y (up Y hY) (up Y hY)
    exact⟨x,a1,⟨a2,a3⟩,a4,⟨a2,a3⟩⟩
   ·obtain⟨x,a1,a2,a3,a4,a5⟩:=q Y Z (up Y hY) (up Z hZ)
    exact⟨x,a1,⟨a2,a3⟩,a4,a5⟩
   ·obtain⟨x,a1,a2,a3,a4,_⟩:=q X X (up X hX) (up X hX)
    exact⟨x,a1,a4,⟨a2,a3⟩,⟨a2,a3⟩⟩
   ·obtain⟨x,a1,a2,a3,a4,a5⟩:=q X Z (up X hX) (up Z hZ)
    exact⟨x,a1,a4,⟨a2,a3⟩,a5⟩
   ·obtain⟨x,a1,a2,a3,a4,a5⟩:=q X Y (up X hX) (up Y hY)
    exact⟨x,a1,a4,a5,⟨a2,a3⟩⟩
   ·exact h X Y Z (up X hX) (up Y hY) (up Z hZ)
  refine⟨x,h1,λX hX=>?_⟩
  obtain⟨a1,a2⟩:=h2 (λf=>A f/\B f) (by simp)
  rcases List.mem_cons.1 hX with rfl | hX
  ·exact a1
  ·rcases List.mem_cons.1 hX with rfl | hX
   ·exact a2
   ·exact h2 X (List.mem_cons_of_mem _ hX)
theorem AFX{s:List Gau}{A:Rl->Prop}(cA:Cv A)(h3:∀a b c,a∈s->b∈s->c∈s->∃x:Rl,x.ok/\x.pass a/\x.pass b/\x.pass c)(h2:∀a b,a∈s->b∈s->∃x:Rl,x.ok/\x.pass a/\x.pass b/\A x)(h0:∃x:Rl,x.ok/\A x):∃x:Rl,x.ok/\x.passes s/\A x:=by
 obtain⟨x,h1,h4⟩:=BPL _ (A :: s.map λg=>λf=>f.passes [g]) rfl (λX hX=>by
  rcases List.mem_cons.1 hX with rfl | hX
  ·exact cA
  ·obtain⟨g,_,rfl⟩:=List.mem_map.1 hX
   exact CJO [g]) λX Y Z hX hY hZ=>by
  have one:∀{f:Rl} {g:Gau},f.pass g->f.passes [g]:=λh y hy=>by rw[List.mem_singleton.1 hy];exact h
  have ps:∀{X:Rl->Prop},X∈s.map (λg=>λf=>f.passes [g])->∃g∈s,∀f:Rl,f.pass g->X f:=λh=>by
   obtain⟨g,hg,rfl⟩:=List.mem_map.1 h
   exact⟨g,hg,λf hf=>one hf⟩
  rcases List.mem_cons.1 hX with eX | hX<;>rcases List.mem_cons.1 hY with eY | hY<;>rcases List.mem_cons.1 hZ with eZ | hZ
  ·obtain⟨x,a1,a2⟩:=h0
   rw[eX,eY,eZ]
   exact⟨x,a1,a2,a2,a2⟩
  ·obtain⟨c,hc,kc⟩:=ps hZ
   obtain⟨x,a1,a2,a3,a4⟩:=h2 c c hc hc
   rw[eX,eY]
   exact⟨x,a1,a4,a4,kc x a2⟩
  ·obtain⟨b,hb,kb⟩:=ps hY
   obtain⟨x,a1,a2,a3,a4⟩:=h2 b b hb hb
   rw[eX,eZ]
   exact⟨x,a1,a4,kb x a2,a4⟩
  ·obtain⟨b,hb,kb⟩:=ps hY
   obtain⟨c,hc,kc⟩:=ps hZ
   obtain⟨x,a1,a2,a3,a4⟩:=h2 b c hb hc
   rw[eX]
   exact⟨x,a1,a4,kb x a2,kc x a3⟩
  ·obtain⟨a,ha,ka⟩:=ps hX
   obtain⟨x,a1,a2,a3,a4⟩:=h2 a a ha ha
   rw[eY,eZ]
   exact⟨x,a1,ka x a2,a4,a4⟩
  ·obtain⟨a,ha,ka⟩:=ps hX
   obtain⟨c,hc,kc⟩:=ps hZ
   obtain⟨x,a1,a2,a3,a4⟩:=h2 a c ha hc
   rw[eY]
   exact⟨x,a1,ka x a2,a4,kc x a3⟩
  ·obtain⟨a,ha,ka⟩:=ps hX
   obtain⟨b,hb,kb⟩:=ps hY
   obtain⟨x,a1,a2,a3,a4⟩:=h2 a b ha hb
   rw[eZ]
   exact⟨x,a1,ka x a2,kb x a3,a4⟩
  ·obtain⟨a,ha,ka⟩:=ps hX
   obtain⟨b,hb,kb⟩:=ps hY
   obtain⟨c,hc,kc⟩:=ps hZ
   obtain⟨x,a1,a2,a3,a4⟩:=h3 a b c ha hb hc
   exact⟨x,a1,ka x a2,kb x a3,kc x a4⟩
 exact⟨x,h1,λg hg=>h4 _ (List.mem_cons_of_mem _ (List.mem_map.2 ⟨g,hg,rfl⟩)) g (by simp),h4 A (by simp)⟩
def pt2(a v b w:Int):Rl:=⟨v*b-w*a,w-v,b-a⟩
theorem Vq(a v b w u:Int):(pt2 a v b w).num u=v*(b-u)+w*(u-a):=by unfold pt2 Rl.num;grind
theorem AZS{a v b w:Int}(h:a<b)(h2:v<=w):(pt2 a v b w).ok:=⟨by show 0<b-a;omega,by show 0<=w-v;omega⟩
theorem BWZ(a v b w:Int):(pt2 a v b w).num a=v*(b-a):=by rw[Vq];grind
theorem CCR(a v b w:Int):(pt2 a v b w).num b=w*(b-a):=by rw[Vq];grind
theorem BRY(f:Rl)(a b t:Int):f.num t*(b-a)=f.num a*(b-t)+f.num b*(t-a):=by unfold Rl.num;grind
theorem iN{f:Rl}(h:f.ok){a b:Int}(hab:a<=b):f.num a<=f.num b:=by
 unfold Rl.num
 have:=Int.mul_le_mul_of_nonneg_left hab h.2
 omega
def loV(a b:Gau)(t:Int):Int:=if b.st<=t then min a.hi (max a.lo b.lo) else a.lo
def loW(a b:Gau)(t:Int):Int:=if b.st<=t then max a.lo b.lo else if t<=a.st then b.hi else max a.lo b.lo
def hiV(a b:Gau)(t:Int):Int:=if b.st<=t then a.lo else if t<=a.st then min a.hi b.hi else min a.hi b.hi
def hiW(a b:Gau)(t:Int):Int:=if b.st<=t then b.hi else if t<=a.st then max (min a.hi b.hi) b.lo else b.hi
def sZ(a b:Gau)(t:Int):Rl:=pt2 a.st (loV a b t) b.st (loW a b t)
def tA(a b:Gau)(t:Int):Rl:=pt2 a.st (hiV a b t) b.st (hiW a b t)
structure Two(a b:Gau):Prop where
 st:a.st<b.st
 oa:a.lo<=a.hi
 ob:b.lo<=b.hi
 up:a.lo<=b.hi
theorem BFN{a b:Gau}{v w:Int}(h:a.st<b.st)(h1:a.lo<=v/\v<=a.hi)(h2:b.lo<=w/\w<=b.hi):(pt2 a.st v b.st w).pass a/\(pt2 a.st v b.st w).pass b:=by
 unfold Rl.pass
 rw[BWZ,CCR]
 show (a.lo*(b.st-a.st)<=_/\_<=a.hi*(b.st-a.st))/\(b.lo*(b.st-a.st)<=_/\_<=b.hi*(b.st-a.st))
 have e:0<=b.st-a.st:=by omega
 exact⟨⟨Int.mul_le_mul_of_nonneg_right h1.1 e,Int.mul_le_mul_of_nonneg_right h1.2 e⟩,Int.mul_le_mul_of_nonneg_right h2.1 e,Int.mul_le_mul_of_nonneg_right h2.2 e⟩
theorem CON{a b:Gau}(h:Two a b)(t:Int):(a.lo<=loV a b t/\loV a b t<=a.hi)/\(b.lo<=loW a b t/\loW a b t<=b.hi)/\loV a b t<=loW a b t:=by
 obtain⟨h1,h2,h3,h4⟩:=h
 unfold loV loW
 split
 ·omega
 ·split<;>omega
theorem COI{a b:Gau}(h:Two a b)(t:Int):(a.lo<=hiV a b t/\hiV a b t<=a.hi)/\(b.lo<=hiW a b t/\hiW a b t<=b.hi)/\hiV a b t<=hiW a b t:=by
 obtain⟨h1,h2,h3,h4⟩:=h
 unfold hiV hiW
 split
 ·omega
 ·split<;>omega
theorem AKA{a b:Gau}(h:Two a b)(t:Int):(sZ a b t).ok/\(sZ a b t).pass a/\(sZ a b t).pass b:=by
 obtain⟨h1,h2,h3⟩:=CON h t
 exact⟨AZS h.st h3,BFN h.st h1 h2⟩
theorem AVS{a b:Gau}(h:Two a b)(t:Int):(tA a b t).ok/\(tA a b t).pass a/\(tA a b t).pass b:=by
 obtain⟨h1,h2,h3⟩:=COI h t
 exact⟨AZS h.st h3,BFN h.st h1 h2⟩
theorem BEE{a b:Gau}(h:Two a b)(t:Int){f:Rl}(hf:f.ok)(h1:f.pass a)(h2:f.pass b):(sZ a b t).num t*f.w<=f.num t*(sZ a b t).w:=by
 obtain⟨i1,i2,i3⟩:=CON h t
 obtain⟨p1,p2⟩:=h1
 obtain⟨p3,p4⟩:=h2
 have hst:=h.st
 have hm:=iN hf (Int.le_of_lt hst)
 show (pt2 a.st (loV a b t) b.st (loW a b t)).num t*f.w<=f.num t*(b.st-a.st)
 rw[Vq,BRY f a.st b.st t]
 generalize hX:f.num a.st=X at *
 generalize hY:f.num b.st=Y at *
 have hW:=hf.1
 generalize f.w=W at *
 unfold loV loW at *
 have mx:max a.lo b.lo*W<=Y:=by
  rcases Int.le_total a.lo b.lo with q | q
  ·rw[Int.max_eq_right q];exact p3
  ·rw[Int.max_eq_left q];omega
 by_cases c1:b.st<=t
 ·rw[if_pos c1,if_pos c1]
  have k:max a.lo b.lo*W-min a.hi (max a.lo b.lo)*W<=Y-X:=by
   rcases Int.le_total a.hi (max a.lo b.lo) with q | q
   ·rw[Int.min_eq_left q];omega
   ·rw[Int.min_eq_right q];omega
  have e1:=Int.mul_le_mul_of_nonneg_right mx (show 0<=b.st-a.st by omega)
  have e2:=Int.mul_le_mul_of_nonneg_right k (show 0<=t-b.st by omega)
  generalize max a.lo b.lo=v at *
  generalize min a.hi v=m at *
  have d1:(m*(b.st-t)+v*(t-a.st))*W=v*W*(b.st-a.st)+(v*W-m*W)*(t-b.st):=by grind
  have d2:X*(b.st-t)+Y*(t-a.st)=Y*(b.st-a.st)+(Y-X)*(t-b.st):=by grind
  rw[d1,d2];omega
 ·rw[if_neg c1,if_neg c1]
  by_cases c2:t<=a.st
  ·rw[if_pos c2]
   have e1:=Int.mul_le_mul_of_nonneg_right p1 (show 0<=b.st-t by omega)
   have e2:=Int.mul_le_mul_of_nonneg_right p4 (show 0<=a.st-t by omega)
   have d1:(a.lo*(b.st-t)+b.hi*(t-a.st))*W=a.lo*W*(b.st-t)-b.hi*W*(a.st-t):=by grind
   have d2:X*(b.st-t)+Y*(t-a.st)=X*(b.st-t)-Y*(a.st-t):=by grind
   rw[d1,d2];omega
  ·rw[if_neg c2]
   have e1:=Int.mul_le_mul_of_nonneg_right p1 (show 0<=b.st-t by omega)
   have e2:=Int.mul_le_mul_of_nonneg_right mx (show 0<=t-a.st by omega)
   generalize max a.lo b.lo=v at *
   have d1:(a.lo*(b.st-t)+v*(t-a.st))*W=a.lo*W*(b.st-t)+v*W*(t-a.st):=by grind
   rw[d1];omega
theorem BON{a b:Gau}(h:Two a b)(t:Int){f:Rl}(hf:f.ok)(h1:f.pass a)(h2:f.pass b):f.num t*(tA a b t).w<=(tA a b t).num t*f.w:=by
 obtain⟨i1,i2,i3⟩:=COI h t
 obtain⟨p1,p2⟩:=h1
 obtain⟨p3,p4⟩:=h2
 have hst:=h.st
 have hm:=iN hf (Int.le_of_lt hst)
 show f.num t*(b.st-a.st)<=(pt2 a.st (hiV a b t) b.st (hiW a b t)).num t*f.w
 rw[Vq,BRY f a.st b.st t]
 generalize hX:f.num a.st=X at *
 generalize hY:f.num b.st=Y at *
 have hW:=hf.1
 generalize f.w=W at *
 unfold hiV hiW at *
 have mn:X<=min a.hi b.hi*W:=by
  rcases Int.le_total a.hi b.hi with q | q
  ·rw[Int.min_eq_left q];exact p2
  ·rw[Int.min_eq_right q];omega
 by_cases c1:b.st<=t
 ·rw[if_pos c1,if_pos c1]
  have e1:=Int.mul_le_mul_of_nonneg_right p4 (show 0<=t-a.st by omega)
  have e2:=Int.mul_le_mul_of_nonneg_right p1 (show 0<=t-b.st by omega)
  have d1:(a.lo*(b.st-t)+b.hi*(t-a.st))*W=b.hi*W*(t-a.st)-a.lo*W*(t-b.st):=by grind
  have d2:X*(b.st-t)+Y*(t-a.st)=Y*(t-a.st)-X*(t-b.st):=by grind
  rw[d1,d2];omega
 ·rw[if_neg c1,if_neg c1]
  by_cases c2:t<=a.st
  ·rw[if_pos c2,if_pos c2]
   have k:max (min a.hi b.hi) b.lo*W-min a.hi b.hi*W<=Y-X:=by
    rcases Int.le_total (min a.hi b.hi) b.lo with q | q
    ·rw[Int.max_eq_right q];omega
    ·rw[Int.max_eq_left q];omega
   have e1:=Int.mul_le_mul_of_nonneg_right mn (show 0<=b.st-a.st by omega)
   have e2:=Int.mul_le_mul_of_nonneg_right k (show 0<=a.st-t by omega)
   generalize min a.hi b.hi=v at *
   generalize max v b.lo=m at *
   have d1:(v*(b.st-t)+m*(t-a.st))*W=v*W*(b.st-a.st)-(m*W-v*W)*(a.st-t):=by grind
   have d2:X*(b.st-t)+Y*(t-a.st)=X*(b.st-a.st)-(Y-X)*(a.st-t):=by grind
   rw[d1,d2];omega
  ·rw[if_neg c2,if_neg c2]
   have e1:=Int.mul_le_mul_of_nonneg_right mn (show 0<=b.st-t by omega)
   have e2:=Int.mul_le_mul_of_nonneg_right p4 (show 0<=t-a.st by omega)
   generalize min a.hi b.hi=v at *
   have d1:(v*(b.st-t)+b.hi*(t-a.st))*W=v*W*(b.st-t)+b.hi*W*(t-a.st):=by grind
   rw[d1];omega
def BJK(a b c:Gau):Bool:=decide (a.lo<=c.hi)&&(decide (a.lo*(c.st-b.st)+max a.lo c.lo*(b.st-a.st)<=b.hi*(c.st-a.st))&&decide (b.lo*(c.st-a.st)<=min a.hi c.hi*(c.st-b.st)+c.hi*(b.st-a.st)))
theorem CIB{a b c:Gau}(oa:a.lo<=a.hi)(ob:b.lo<=b.hi)(oc:c.lo<=c.hi)(h1:a.st<b.st)(h2:b.st<c.st):BJK a b c=true↔∃f:Rl,f.ok/\f.pass a/\f.pass b/\f.pass c:=by
 unfold BJK
 simp only[Bool.and_eq_true,decide_eq_true_eq]
 have n1:¬c.st<=b.st:=by omega
 have n2:¬b.st<=a.st:=by omega
 constructor
 ·rintro⟨k1,k2,k3⟩
  have T:Two a c:=⟨by omega,oa,oc,k1⟩
  obtain⟨lo1,lo2,lo3⟩:=AKA T b.st
  obtain⟨hi1,hi2,hi3⟩:=AVS T b.st
  have el:(sZ a c b.st).num b.st=a.lo*(c.st-b.st)+max a.lo c.lo*(b.st-a.st):=by
   unfold sZ loV loW;rw[Vq,if_neg n1,if_neg n1,if_neg n2]
  have eh:(tA a c b.st).num b.st=min a.hi c.hi*(c.st-b.st)+c.hi*(b.st-a.st):=by
   unfold tA hiV hiW;rw[Vq,if_neg n1,if_neg n1,if_neg n2,if_neg n2]
  have wl:(sZ a c b.st).w=c.st-a.st:=rfl
  have wh:(tA a c b.st).w=c.st-a.st:=rfl
  rw[<-el] at k2
  rw[<-eh] at k3
  by_cases c1:b.lo*(c.st-a.st)<=(sZ a c b.st).num b.st
  ·exact⟨_,lo1,lo2,⟨by rw[wl];exact c1,by rw[wl];exact k2⟩,lo3⟩
  ·by_cases c2:(tA a c b.st).num b.st<=b.hi*(c.st-a.st)
   ·exact⟨_,hi1,hi2,⟨by rw[wh];exact k3,by rw[wh];exact c2⟩,hi3⟩
   ·generalize hL:sZ a c b.st=f at *
    generalize hH:tA a c b.st=g at *
    have hw:0<=c.st-a.st:=by omega
    have hb:=Int.mul_le_mul_of_nonneg_right ob hw
    have pA:0<=g.num b.st-b.lo*(c.st-a.st):=by omega
    have pB:0<b.lo*(c.st-a.st)-f.num b.st:=by omega
    have key:∀s:Gau,f.pass s->g.pass s->(cmb (g.num b.st-b.lo*(c.st-a.st)) (b.lo*(c.st-a.st)-f.num b.st) 0 0 f g f g).pass s:=λs q1 q2=>by
     have:=Ek (s:=[s]) (a:=g.num b.st-b.lo*(c.st-a.st)) (b:=b.lo*(c.st-a.st)-f.num b.st) (c:=0) (d:=0) (f:=f) (g:=g) (h:=f) (k:=g) ⟨pA,Int.le_of_lt pB,Int.le_refl _,Int.le_refl _⟩ (.inr λx hx=>by rw[List.mem_singleton.1 hx];exact q1) (.inr λx hx=>by rw[List.mem_singleton.1 hx];exact q2) (.inl rfl) (.inl rfl)
     exact this s (by simp)
    refine⟨_,ADY ⟨pA,Int.le_of_lt pB,Int.le_refl _,Int.le_refl _⟩ (.inr (.inl pB)) lo1 hi1 lo1 hi1,key a lo2 hi2,?_,key c lo3 hi3⟩
    have hn:(cmb (g.num b.st-b.lo*(c.st-a.st)) (b.lo*(c.st-a.st)-f.num b.st) 0 0 f g f g).num b.st=b.lo*(cmb (g.num b.st-b.lo*(c.st-a.st)) (b.lo*(c.st-a.st)-f.num b.st) 0 0 f g f g).w:=by
     rw[AJJ]
     show _=b.lo*((g.num b.st-b.lo*(c.st-a.st))*f.w+(b.lo*(c.st-a.st)-f.num b.st)*g.w+0*f.w+0*g.w)
     rw[wl,wh]
     generalize f.num b.st=m
     generalize g.num b.st=M
     generalize c.st-a.st=W
     grind
    refine⟨by rw[hn];exact Int.le_refl _,?_⟩
    rw[hn]
    refine Int.mul_le_mul_of_nonneg_right ob (Int.le_of_lt (ADY (f:=f) (g:=g) (h:=f) (k:=g) ⟨pA,Int.le_of_lt pB,Int.le_refl _,Int.le_refl _⟩ (.inr (.inl pB)) lo1 hi1 lo1 hi1).1)
 ·rintro⟨f,hf,pa,pb,pc⟩
  have hW:=hf.1
  have k1:a.lo<=c.hi:=by
   have:=iN hf (show a.st<=c.st by omega)
   have q1:=pa.1
   have q2:=pc.2
   exact Int.le_of_mul_le_mul_right (show a.lo*f.w<=c.hi*f.w by omega) hW
  have T:Two a c:=⟨by omega,oa,oc,k1⟩
  have l1:=BEE T b.st hf pa pc
  have l2:=BON T b.st hf pa pc
  have el:(sZ a c b.st).num b.st=a.lo*(c.st-b.st)+max a.lo c.lo*(b.st-a.st):=by
   unfold sZ loV loW;rw[Vq,if_neg n1,if_neg n1,if_neg n2]
  have eh:(tA a c b.st).num b.st=min a.hi c.hi*(c.st-b.st)+c.hi*(b.st-a.st):=by
   unfold tA hiV hiW;rw[Vq,if_neg n1,if_neg n1,if_neg n2,if_neg n2]
  have wl:(sZ a c b.st).w=c.st-a.st:=rfl
  have wh:(tA a c b.st).w=c.st-a.st:=rfl
  rw[el,wl] at l1
  rw[eh,wh] at l2
  have hw:0<=c.st-a.st:=by omega
  have e1:=Int.mul_le_mul_of_nonneg_right pb.1 hw
  have e2:=Int.mul_le_mul_of_nonneg_right pb.2 hw
  refine⟨k1,Int.le_of_mul_le_mul_right (?_:_*f.w<=_*f.w) hW,Int.le_of_mul_le_mul_right (?_:_*f.w<=_*f.w) hW⟩
  ·have:b.hi*(c.st-a.st)*f.w=b.hi*f.w*(c.st-a.st):=by grind
   rw[this];omega
  ·have:b.lo*(c.st-a.st)*f.w=b.lo*f.w*(c.st-a.st):=by grind
   rw[this];omega
def Bs(a b:Gau):Gau:=⟨a.st,max a.lo b.lo,min a.hi b.hi⟩
def thrA(a b:Gau):Gau:=bif a.st==b.st then Bs a b else a
def thrB(a b:Gau):Gau:=bif a.st==b.st then Bs a b else b
def thrC(b c:Gau):Gau:=bif b.st==c.st then Bs c b else c
def iO(b c:Gau):Gau:=bif b.st==c.st then Bs c b else b
def J9(a b c:Gau):Bool:=bif a.st==c.st then decide (c.lo<=c.hi) else bif (bif (bif decide (a.lo>a.hi) then true else decide (c.lo>c.hi)) then true else decide (a.lo>c.hi)) then false else bif (bif b.st==a.st then true else b.st==c.st) then true else
 (bif decide (a.lo*(c.st-b.st)+max a.lo c.lo*(b.st-a.st)<=b.hi*(c.st-a.st)) then decide (min a.hi c.hi*(c.st-b.st)+c.hi*(b.st-a.st)>=b.lo*(c.st-a.st)) else false)
def Vh(a b c:Gau):Bool:=J9 (thrA a b) (iO (thrB a b) c) (thrC (thrB a b) c)
theorem Km{a b:Gau}(h:a.st=b.st){f:Rl}(hf:f.ok):f.pass (Bs a b)↔f.pass a/\f.pass b:=by
 unfold Rl.pass Bs
 have hw:=hf.1
 rw[<-h]
 generalize f.num a.st=X
 show (max a.lo b.lo*f.w<=X/\X<=min a.hi b.hi*f.w)↔_
 rcases Int.le_total a.lo b.lo with q | q<;>rcases Int.le_total a.hi b.hi with r | r
 ·have:=Int.mul_le_mul_of_nonneg_right q (Int.le_of_lt hw)
  have:=Int.mul_le_mul_of_nonneg_right r (Int.le_of_lt hw)
  rw[Int.max_eq_right q,Int.min_eq_left r];omega
 ·have:=Int.mul_le_mul_of_nonneg_right q (Int.le_of_lt hw)
  have:=Int.mul_le_mul_of_nonneg_right r (Int.le_of_lt hw)
  rw[Int.max_eq_right q,Int.min_eq_right r];omega
 ·have:=Int.mul_le_mul_of_nonneg_right q (Int.le_of_lt hw)
  have:=Int.mul_le_mul_of_nonneg_right r (Int.le_of_lt hw)
  rw[Int.max_eq_left q,Int.min_eq_left r];omega
 ·have:=Int.mul_le_mul_of_nonneg_right q (Int.le_of_lt hw)
  have:=Int.mul_le_mul_of_nonneg_right r (Int.le_of_lt hw)
  rw[Int.max_eq_left q,Int.min_eq_right r];omega
theorem AKM{g:Gau}{f:Rl}(hf:f.ok)(h:f.pass g):g.lo<=g.hi:=Int.le_of_mul_le_mul_right (Int.le_trans h.1 h.2) hf.1
theorem BWL{g:Gau}:g.lo<=g.hi↔∃f:Rl,f.ok/\f.pass g:=
 ⟨λh=>⟨⟨g.lo,0,1⟩,⟨Int.one_pos,Int.le_refl _⟩,by unfold Rl.pass Rl.num;simp only[Int.zero_mul,Int.mul_one,Int.add_zero];omega⟩,λ⟨f,h1,h2⟩=>AKM h1 h2⟩
theorem BDQ{a c:Gau}(h:a.st<c.st):(a.lo<=a.hi/\c.lo<=c.hi/\a.lo<=c.hi)↔∃f:Rl,f.ok/\f.pass a/\f.pass c:=by
 constructor
 ·rintro⟨h1,h2,h3⟩
  exact⟨_,AKA ⟨h,h1,h2,h3⟩ 0⟩
 ·rintro⟨f,hf,pa,pc⟩
  refine⟨AKM hf pa,AKM hf pc,?_⟩
  have:=iN hf (Int.le_of_lt h)
  have q1:=pa.1
  have q2:=pc.2
  exact Int.le_of_mul_le_mul_right (show a.lo*f.w<=c.hi*f.w by omega) hf.1
theorem CSS{x y:Bool}:(bif x then true else y)=true↔x=true∨y=true:=by cases x<;>simp
theorem BSV{a c:Gau}(h:a.st<c.st):(bif (bif (bif decide (a.lo>a.hi) then true else decide (c.lo>c.hi)) then true else decide (a.lo>c.hi)) then false else true)=true↔∃f:Rl,f.ok/\f.pass a/\f.pass c:=by
 rw[<-BDQ h]
 by_cases h1:a.lo>a.hi
 ·simp[h1];try omega
 ·by_cases h2:c.lo>c.hi
  ·simp[h1,h2];try omega
  ·by_cases h3:a.lo>c.hi
   ·simp[h1,h2,h3];try omega
   ·simp[h1,h2,h3];try omega
theorem APW{a b c:Gau}(oa:a.lo<=a.hi)(ob:b.lo<=b.hi)(oc:c.lo<=c.hi)(h1:a.st<=b.st)(h2:b.st<=c.st):Vh a b c=true↔∃f:Rl,f.ok/\f.pass a/\f.pass b/\f.pass c:=by
 unfold Vh thrA thrB
 by_cases e1:a.st=b.st
 ·rw[beq_iff_eq.2 e1]
  simp only[cond_true]
  unfold iO thrC
  by_cases e2:b.st=c.st
  ·rw[show ((Bs a b).st==c.st)=true from beq_iff_eq.2 (e1.trans e2)]
   simp only[cond_true]
   unfold J9
   rw[show ((Bs a b).st==(Bs c (Bs a b)).st)=true from beq_iff_eq.2 (e1.trans e2),cond_true,decide_eq_true_iff,BWL]
   constructor
   ·rintro⟨f,hf,hp⟩
    obtain⟨p1,p2⟩:=(Km (show c.st=(Bs a b).st from (e1.trans e2).symm) hf).1 hp
    obtain⟨p3,p4⟩:=(Km e1 hf).1 p2
    exact⟨f,hf,p3,p4,p1⟩
   ·rintro⟨f,hf,p3,p4,p1⟩
    exact⟨f,hf,(Km (show c.st=(Bs a b).st from (e1.trans e2).symm) hf).2 ⟨p1,(Km e1 hf).2 ⟨p3,p4⟩⟩⟩
  ·have e3:¬(Bs a b).st=c.st:=λh=>e2 (e1.symm.trans h)
   rw[show ((Bs a b).st==c.st)=false from beq_eq_false_iff_ne.2 e3]
   simp only[cond_false]
   unfold J9
   rw[show ((Bs a b).st==c.st)=false from beq_eq_false_iff_ne.2 e3,show ((Bs a b).st==(Bs a b).st)=true from beq_iff_eq.2 rfl]
   simp only[cond_false,cond_true]
   rw[BSV (show (Bs a b).st<c.st by show a.st<c.st;omega)]
   constructor
   ·rintro⟨f,hf,p2,p1⟩
    obtain⟨p3,p4⟩:=(Km e1 hf).1 p2
    exact⟨f,hf,p3,p4,p1⟩
   ·rintro⟨f,hf,p3,p4,p1⟩
    exact⟨f,hf,(Km e1 hf).2 ⟨p3,p4⟩,p1⟩
 ·rw[show (a.st==b.st)=false from beq_eq_false_iff_ne.2 e1]
  simp only[cond_false]
  unfold iO thrC
  by_cases e2:b.st=c.st
  ·rw[beq_iff_eq.2 e2]
   simp only[cond_true]
   unfold J9
   have e3:¬a.st=(Bs c b).st:=λh=>by have h:a.st=c.st:=h;omega
   rw[show (a.st==(Bs c b).st)=false from beq_eq_false_iff_ne.2 e3,show ((Bs c b).st==(Bs c b).st)=true from beq_iff_eq.2 rfl]
   simp only[cond_false,cond_true]
   rw[show (bif (Bs c b).st==a.st then true else true)=true by cases (Bs c b).st==a.st<;>rfl]
   simp only[cond_true]
   rw[BSV (show a.st<(Bs c b).st by show a.st<c.st;omega)]
   constructor
   ·rintro⟨f,hf,p1,p2⟩
    obtain⟨p3,p4⟩:=(Km e2.symm hf).1 p2
    exact⟨f,hf,p1,p4,p3⟩
   ·rintro⟨f,hf,p1,p4,p3⟩
    exact⟨f,hf,p1,(Km e2.symm hf).2 ⟨p3,p4⟩⟩
  ·rw[show (b.st==c.st)=false from beq_eq_false_iff_ne.2 e2]
   simp only[cond_false]
   rw[<-CIB oa ob oc (by omega) (by omega)]
   unfold J9 BJK
   rw[show (a.st==c.st)=false from beq_eq_false_iff_ne.2 (by omega),show (b.st==a.st)=false from beq_eq_false_iff_ne.2 (by omega),show (b.st==c.st)=false from beq_eq_false_iff_ne.2 e2,decide_eq_false (show ¬a.lo>a.hi by omega),decide_eq_false (show ¬c.lo>c.hi by omega)]
   simp only[cond_false]
   by_cases k:a.lo<=c.hi
   ·rw[decide_eq_false (show ¬a.lo>c.hi by omega),decide_eq_true k]
    simp only[cond_false,Bool.true_and,ge_iff_le]
    cases decide (a.lo*(c.st-b.st)+max a.lo c.lo*(b.st-a.st)<=b.hi*(c.st-a.st))<;>simp
   ·rw[decide_eq_true (show a.lo>c.hi by omega),decide_eq_false k]
    simp
end Go.Bal
