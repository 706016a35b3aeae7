/- Package chart: charts that are made of numbers are right, and have the truth that is made with them (no program in sight). -/
import Derived.Test.YtlblbbidigejkaaGreatChJ
set_option linter.unusedVariables false
set_option linter.unusedSimpArgs false
namespace Go.Bal
open Go Go.Sym Go.Proofs
theorem AIH{m:Int}(hm:1<=m/\m<=1000):∀(z:List Int) (a:Int),-1<=a->a<=1000->(bX m a z=true↔(∀g∈z,a<g/\g+1<m)/\z.Pairwise (· < ·))
 |[],a,_,_=>⟨λ_=>⟨λg h=>(by cases h),.nil⟩,λ_=>rfl⟩
 |g :: r,a,h1,h2=>by
  show (bif PX g (GM (a+1)) (GM (m-2)) then bX m g r else false)=true↔_
  have e1:GM (a+1)=a+1:=ER (by omega) (by omega)
  have e2:GM (m-2)=m-2:=ER (by omega) (by omega)
  rw[e1,e2]
  cases hi:PX g (a+1) (m-2) with
  |false=>
   refine⟨λh=>(by cases h),λh=>?_⟩
   have:=h.1 g (List.mem_cons_self ..)
   rw[KR.2 (by omega)] at hi;cases hi
  |true=>
   have hb:=KR.1 hi
   have ih:=AIH hm r g (by omega) (by omega)
   show bX m g r=true↔_
   rw[ih,List.pairwise_cons]
   constructor
   ·rintro⟨q1,q2⟩
    refine⟨λx hx=>?_,λx hx=>(q1 x hx).1,q2⟩
    rcases List.mem_cons.1 hx with rfl | hx
    ·omega
    ·have:=q1 x hx;omega
   ·rintro⟨q1,q2,q3⟩
    exact⟨λx hx=>⟨q2 x hx,(q1 x (List.mem_cons_of_mem _ hx)).2⟩,q3⟩
theorem BQP{m:Int}:∀(z:List Int) (a:Int) (f:Nat->Bool) (j:Nat),-1<=a->a<=1000->1<=m/\m<=1000->bX m a z=true->(E0 m a z f j=true↔f j=true∨(j:Int)∈z)
 |[],a,f,j,_,_,_,_=>⟨λh=>.inl h,λh=>h.elim id λh=>(by cases h)⟩
 |g :: r,a,f,j,h1,h2,hm,h=>by
  have hh:=(AIH hm (g :: r) a h1 h2).1 h
  have hg:=hh.1 g (List.mem_cons_self ..)
  have h:(bif PX g (GM (a+1)) (GM (m-2)) then bX m g r else false)=true:=h
  show (bif PX g (GM (a+1)) (GM (m-2)) then E0 m g r (λi=>bif decide (i=g.toNat) then true else f i) j else f j)=true↔_
  cases hi:PX g (GM (a+1)) (GM (m-2)) with
  |false=>rw[hi] at h;cases h
  |true=>
   rw[hi] at h
   show E0 m g r (λi=>bif decide (i=g.toNat) then true else f i) j=true↔_
   rw[BQP r g _ j (by omega) (by omega) hm h,List.mem_cons]
   by_cases e:j=g.toNat
   ·rw[decide_eq_true e]
    exact⟨λ_=>.inr (.inl (by omega)),λ_=>.inl rfl⟩
   ·rw[decide_eq_false e]
    have:¬ (j:Int)=g:=by omega
    constructor
    ·rintro (q | q)
     ·exact .inl q
     ·exact .inr (.inr q)
    ·rintro (q | q | q)
     ·exact .inl q
     ·exact absurd q this
     ·exact .inr q
theorem BRS{a:CZ}(h:1<=a.c.ms.length/\a.c.ms.length<=40):okZ a=true↔(∀g∈a.z,0<=g/\g+1<a.c.ms.length)/\a.z.Pairwise (· < ·):=by
 unfold okZ
 rw[AIH (by omega) _ _ (by omega) (by omega)]
 exact⟨λq=>⟨λg hg=>by have:=q.1 g hg;omega,q.2⟩,λq=>⟨λg hg=>by have:=q.1 g hg;omega,q.2⟩⟩
theorem CLH{a:CZ}(h:1<=a.c.ms.length/\a.c.ms.length<=40)(hz:okZ a=true)(j:Nat):(XK a).sp j=true↔(j:Int)∈a.z:=by
 show E0 a.c.ms.length (-1) a.z (λ_=>false) j=true↔_
 rw[BQP a.z (-1) _ j (by omega) (by omega) (by omega) hz]
 exact⟨λq=>q.elim (λq=>by cases q) id,.inr⟩
structure HdB(a:MkIQ):Prop where
 lo:1<=dU a.s/\dU a.s<=12
 hi:dU a.s<=hHi a.s/\hHi a.s<=17
 bs:-50<=hBs a.s/\hBs a.s<=400
 sc:0<=R6 a.s/\R6 a.s<=11
 of:0<=wK a.s/\wK a.s<=8
 tm:0<=hTm a.s/\hTm a.s<=299
theorem hdB{a:MkIQ}(h:wD a):HdB a:=by
 obtain⟨b1,b2,b3,b4,b5,b6⟩:=AXV h
 have v1:1<=dU a.s/\dU a.s<=12:=kY h.1 (by omega) (lo:=1) (hi:=12) (by omega) (by omega) (by omega)
 have v2:=kY b1 (by omega) (lo:=-50) (hi:=400) (by omega) (by omega) (by omega)
 have v3:=PY b2 (by omega) 12
 have v4:=PY b3 (by omega) 9
 have v5:=PY b4 (by omega) 6
 have v6:=PY b5 (by omega) 300
 have w3:=v3.2 (by omega)
 have w4:=v4.2 (by omega)
 have w5:=v5.2 (by omega)
 have w6:=v6.2 (by omega)
 have e:hHi a.s=dU a.s+AY (gS4 a.s) 6:=ER (by omega) (by omega)
 exact⟨v1,by omega,v2,⟨v3.1,by unfold R6;omega⟩,⟨v4.1,by unfold wK;omega⟩,⟨v6.1,by unfold hTm;omega⟩⟩
theorem Mi{α:Type}[Inhabited α](l:List α)(x:α){i:Nat}(h:i<l.length):gD (l ++ [x]) i=gD l i:=by rw[P2 _ _ (by omega),decide_eq_true h];rfl
theorem dM{α:Type}[Inhabited α](l:List α)(x:α){i:Nat}(h:i=l.length):gD (l ++ [x]) i=x:=by subst h;rw[P2 _ _ (by omega),decide_eq_false (by omega)];rfl
structure MdI(a:MkIQ)(x:MS):Prop where
 tl:x.t.length=x.ms.length
 sl:x.st.length=x.ms.length
 zero:x.ms.length=0->x.pl=0/\(0<=x.tm/\x.tm<=299)/\x.z=[]
 last:0<x.ms.length->(gD x.ms (x.ms.length-1)).pl=x.pl/\gD x.t (x.ms.length-1)=x.tm
 plb:∀i,i<x.ms.length->0<=(gD x.ms i).pl/\(gD x.ms i).pl<=30*i
 ht:∀i,i<x.ms.length->0<=(gD x.ms i).ht/\(gD x.ms i).ht<=59
 tm:∀i,i<x.ms.length->0<=gD x.t i/\gD x.t i<=299+1000*i
 st:∀i,i<x.ms.length->hBs a.s+R6 a.s*(gD x.ms i).ht-wK a.s<=gD x.st i/\gD x.st i<=hBs a.s+R6 a.s*(gD x.ms i).ht+wK a.s
 far:∀i,i+1<x.ms.length->1<=(gD x.ms (i+1)).pl-(gD x.ms i).pl/\(gD x.ms (i+1)).pl-(gD x.ms i).pl<=30
 lo:∀i,i+1<x.ms.length->dU a.s*((gD x.ms (i+1)).pl-(gD x.ms i).pl)<=gD x.t (i+1)-gD x.t i
 hi:∀i:Nat,i+1<x.ms.length->¬ (i:Int)∈x.z->gD x.t (i+1)-gD x.t i<=hHi a.s*((gD x.ms (i+1)).pl-(gD x.ms i).pl)
 zb:∀g∈x.z,0<=g/\g+1<x.ms.length
 zs:x.z.Pairwise (· < ·)
 zn:a.b=false->x.z=[]
structure GoF(a:MkIQ)(K:Int)(x y:MS):Prop where
 ms:y.ms=x.ms
 t:y.t=x.t
 st:y.st=x.st
 far:1<=y.pl-x.pl/\y.pl-x.pl<=30
 lo:dU a.s*(y.pl-x.pl)<=y.tm-x.tm
 up:0<=y.tm-x.tm/\y.tm-x.tm<=1000
 z:(y.z=x.z/\y.tm-x.tm<=hHi a.s*(y.pl-x.pl))∨(a.b=true/\y.z=x.z ++ [(x.ms.length:Int)-1])
 s:StmBQ (K+4) y.s
theorem goFQ{a:MkIQ}(hd:HdB a){K:Int}{x:MS}(hs:StmBQ K x.s)(hK:K<=1000)(h1:0<x.ms.length)(h2:x.ms.length<=100)(hp:0<=x.pl/\x.pl<=10000)(ht:0<=x.tm/\x.tm<=100000):GoF a K x (goMQ a x):=by
 rw[go_1 h1]
 have s1:=MV hs (by omega) 1 30
 have v1:1<=Ar x/\Ar x<=30:=kY hs (by omega) (by omega) (by omega) (by omega)
 have m1:=AMA (a:=dU a.s) (b:=Ar x) (A:=12) (B:=30) (by have:=hd.lo;omega) hd.lo.2 (by omega) v1.2
 have m2:=AMA (a:=hHi a.s) (b:=Ar x) (A:=17) (B:=30) (by have:=hd.lo;have:=hd.hi;omega) hd.hi.2 (by omega) v1.2
 have m3:dU a.s*Ar x<=hHi a.s*Ar x:=Int.mul_le_mul_of_nonneg_right hd.hi.1 (by omega)
 have e1:GM (dU a.s*Ar x)=dU a.s*Ar x:=ER (by omega) (by omega)
 have e2:GM (hHi a.s*Ar x)=hHi a.s*Ar x:=ER (by omega) (by omega)
 have s2:=MV s1 (by omega) (dU a.s*Ar x) (hHi a.s*Ar x)
 have v2:=kY s1 (by omega) (lo:=dU a.s*Ar x) (hi:=hHi a.s*Ar x) (by omega) m3 (by omega)
 have e3:GM (x.pl+Ar x)=x.pl+Ar x:=ER (by omega) (by omega)
 have e4:GM (x.tm+Md (Jj x.s 1 30) (dU a.s*Ar x) (hHi a.s*Ar x))=x.tm+Md (Jj x.s 1 30) (dU a.s*Ar x) (hHi a.s*Ar x):=ER (by omega) (by omega)
 have ea:advA a x=⟨Jj (Jj x.s 1 30) (dU a.s*Ar x) (hHi a.s*Ar x),x.pl+Ar x,x.tm+Md (Jj x.s 1 30) (dU a.s*Ar x) (hHi a.s*Ar x),x.ms,x.t,x.st,x.z⟩:=by
  unfold advA;rw[e1,e2,e3,e4]
 rw[ea]
 generalize Md (Jj x.s 1 30) (dU a.s*Ar x) (hHi a.s*Ar x)=V at *
 generalize Jj (Jj x.s 1 30) (dU a.s*Ar x) (hHi a.s*Ar x)=S at *
 generalize Ar x=F at *
 have q1:x.pl+F-x.pl=F:=by omega
 have q2:x.tm+V-x.tm=V:=by omega
 unfold S0
 cases hb:a.b with
 |false=>
  refine⟨rfl,rfl,rfl,?_,?_,?_,.inl ⟨rfl,?_⟩,s2.mono (by omega)⟩
  ·show 1<=x.pl+F-x.pl/\x.pl+F-x.pl<=30;omega
  ·show dU a.s*(x.pl+F-x.pl)<=x.tm+V-x.tm;rw[q1,q2];exact v2.1
  ·show 0<=x.tm+V-x.tm/\x.tm+V-x.tm<=1000;omega
  ·show x.tm+V-x.tm<=hHi a.s*(x.pl+F-x.pl);rw[q1,q2];exact v2.2
 |true=>
  have s3:=s2.next (by omega) 5
  have s4:=s3.next (by omega) 400
  have v4:=PY s3 (by omega) 400
  have w4:=v4.2 (by omega)
  have e5:GM (x.tm+V+AY (BL S 5) 400)=x.tm+V+AY (BL S 5) 400:=ER (by omega) (by omega)
  have e6:GM ((x.ms.length:Int)-1)=(x.ms.length:Int)-1:=ER (by omega) (by omega)
  dsimp only
  rw[e5,e6]
  cases hc:(AY S 5==0) with
  |false=>
   refine⟨rfl,rfl,rfl,?_,?_,?_,.inl ⟨rfl,?_⟩,s3.mono (by omega)⟩
   ·show 1<=x.pl+F-x.pl/\x.pl+F-x.pl<=30;omega
   ·show dU a.s*(x.pl+F-x.pl)<=x.tm+V-x.tm;rw[q1,q2];exact v2.1
   ·show 0<=x.tm+V-x.tm/\x.tm+V-x.tm<=1000;omega
   ·show x.tm+V-x.tm<=hHi a.s*(x.pl+F-x.pl);rw[q1,q2];exact v2.2
  |true=>
   refine⟨rfl,rfl,rfl,?_,?_,?_,.inr ⟨hb,rfl⟩,s4.mono (by omega)⟩
   ·show 1<=x.pl+F-x.pl/\x.pl+F-x.pl<=30;omega
   ·show dU a.s*(x.pl+F-x.pl)<=x.tm+V+AY (BL S 5) 400-x.tm;rw[q1];omega
   ·show 0<=x.tm+V+AY (BL S 5) 400-x.tm/\x.tm+V+AY (BL S 5) 400-x.tm<=1000;omega
theorem addF{a:MkIQ}(hd:HdB a){K:Int}{y:MS}(hs:StmBQ K y.s)(hK:K<=1000):∃h v s,addM a y=⟨s,y.pl,y.tm,y.ms ++ [⟨y.pl,h⟩],y.t ++ [y.tm],y.st ++ [v],y.z⟩/\(0<=h/\h<=59)/\(hBs a.s+R6 a.s*h-wK a.s<=v/\v<=hBs a.s+R6 a.s*h+wK a.s)/\StmBQ (K+2) s:=by
 have s1:=hs.next (by omega) 60
 have v1:=PY hs (by omega) 60
 have w1:=v1.2 (by omega)
 have m:=AMA (a:=R6 a.s) (b:=AY y.s 60) (A:=11) (B:=59) hd.sc.1 hd.sc.2 v1.1 (by omega)
 have e1:GM (R6 a.s*AY y.s 60)=R6 a.s*AY y.s 60:=ER (by omega) (by omega)
 have d1:=hd.bs
 have d2:=hd.of
 have e2:yAt a y=hBs a.s+R6 a.s*AY y.s 60:=by unfold yAt;rw[e1];exact ER (by omega) (by omega)
 have e3:GM (yAt a y-wK a.s)=yAt a y-wK a.s:=ER (by omega) (by omega)
 have e4:GM (yAt a y+wK a.s)=yAt a y+wK a.s:=ER (by omega) (by omega)
 refine⟨AY y.s 60,Md (BL y.s 60) (GM (yAt a y-wK a.s)) (GM (yAt a y+wK a.s)),Jj (BL y.s 60) (GM (yAt a y-wK a.s)) (GM (yAt a y+wK a.s)),rfl,⟨v1.1,by omega⟩,?_,(MV s1 (by omega) _ _).mono (by omega)⟩
 rw[e3,e4]
 have:=kY s1 (by omega) (lo:=yAt a y-wK a.s) (hi:=yAt a y+wK a.s) (by omega) (by omega) (by omega)
 rw[<-e2];exact this
theorem MdI.add{a:MkIQ}{x y:MS}(hx:MdI a x)(e1:y.ms=x.ms)(e2:y.t=x.t)(e3:y.st=x.st)(hp:0<=y.pl/\y.pl<=30*(x.ms.length:Int))(ht:0<=y.tm/\y.tm<=299+1000*(x.ms.length:Int))
  (hg:∀i,i+1=x.ms.length->(1<=y.pl-(gD x.ms i).pl/\y.pl-(gD x.ms i).pl<=30)/\dU a.s*(y.pl-(gD x.ms i).pl)<=y.tm-gD x.t i/\(¬ (i:Int)∈y.z->y.tm-gD x.t i<=hHi a.s*(y.pl-(gD x.ms i).pl)))
  (hz:y.z=x.z∨(a.b=true/\0<x.ms.length/\y.z=x.z ++ [(x.ms.length:Int)-1])) {h v:Int} {s:StmQ} (h1:0<=h/\h<=59) (h2:hBs a.s+R6 a.s*h-wK a.s<=v/\v<=hBs a.s+R6 a.s*h+wK a.s):MdI a ⟨s,y.pl,y.tm,y.ms ++ [⟨y.pl,h⟩],y.t ++ [y.tm],y.st ++ [v],y.z⟩:=by
 rw[e1,e2,e3]
 have tl:=hx.tl
 have sl:=hx.sl
 have lm:(x.ms ++ [(⟨y.pl,h⟩:Mk)]).length=x.ms.length+1:=by simp
 refine⟨?_,?_,?_,?_,?_,?_,?_,?_,?_,?_,?_,?_,?_,?_⟩
 ·show (x.t ++ [y.tm]).length=(x.ms ++ [(⟨y.pl,h⟩:Mk)]).length;simp[tl]
 ·show (x.st ++ [v]).length=(x.ms ++ [(⟨y.pl,h⟩:Mk)]).length;simp[sl]
 ·intro h0;have h0:(x.ms ++ [(⟨y.pl,h⟩:Mk)]).length=0:=h0;rw[lm] at h0;omega
 ·intro _
  show (gD (x.ms ++ [(⟨y.pl,h⟩:Mk)]) ((x.ms ++ [(⟨y.pl,h⟩:Mk)]).length-1)).pl=y.pl/\gD (x.t ++ [y.tm]) ((x.ms ++ [(⟨y.pl,h⟩:Mk)]).length-1)=y.tm
  rw[lm,dM x.ms _ (by omega),dM x.t _ (by omega)];exact⟨rfl,rfl⟩
 ·intro i hi
  have hi:i<(x.ms ++ [(⟨y.pl,h⟩:Mk)]).length:=hi
  rw[lm] at hi
  show 0<=(gD (x.ms ++ [(⟨y.pl,h⟩:Mk)]) i).pl/\(gD (x.ms ++ [(⟨y.pl,h⟩:Mk)]) i).pl<=30*(i:Int)
  rcases Nat.lt_or_ge i x.ms.length with q | q
  ·rw[Mi x.ms _ q];exact hx.plb i q
  ·obtain rfl:i=x.ms.length:=by omega
   rw[dM x.ms _ rfl];exact hp
 ·intro i hi
  have hi:i<(x.ms ++ [(⟨y.pl,h⟩:Mk)]).length:=hi
  rw[lm] at hi
  show 0<=(gD (x.ms ++ [(⟨y.pl,h⟩:Mk)]) i).ht/\(gD (x.ms ++ [(⟨y.pl,h⟩:Mk)]) i).ht<=59
  rcases Nat.lt_or_ge i x.ms.length with q | q
  ·rw[Mi x.ms _ q];exact hx.ht i q
  ·rw[dM x.ms _ (by omega)];exact h1
 ·intro i hi
  have hi:i<(x.ms ++ [(⟨y.pl,h⟩:Mk)]).length:=hi
  rw[lm] at hi
  show 0<=gD (x.t ++ [y.tm]) i/\gD (x.t ++ [y.tm]) i<=299+1000*(i:Int)
  rcases Nat.lt_or_ge i x.ms.length with q | q
  ·rw[Mi x.t _ (by omega)];exact hx.tm i q
  ·obtain rfl:i=x.ms.length:=by omega
   rw[dM x.t _ (by omega)];exact ht
 ·intro i hi
  have hi:i<(x.ms ++ [(⟨y.pl,h⟩:Mk)]).length:=hi
  rw[lm] at hi
  show hBs a.s+R6 a.s*(gD (x.ms ++ [(⟨y.pl,h⟩:Mk)]) i).ht-wK a.s<=gD (x.st ++ [v]) i/\gD (x.st ++ [v]) i<=hBs a.s+R6 a.s*(gD (x.ms ++ [(⟨y.pl,h⟩:Mk)]) i).ht+wK a.s
  rcases Nat.lt_or_ge i x.ms.length with q | q
  ·rw[Mi x.ms _ q,Mi x.st _ (by omega)];exact hx.st i q
  ·rw[dM x.ms _ (by omega),dM x.st _ (by omega)];exact h2
 ·intro i hi
  have hi:i+1<(x.ms ++ [(⟨y.pl,h⟩:Mk)]).length:=hi
  rw[lm] at hi
  show 1<=(gD (x.ms ++ [(⟨y.pl,h⟩:Mk)]) (i+1)).pl-(gD (x.ms ++ [(⟨y.pl,h⟩:Mk)]) i).pl/\(gD (x.ms ++ [(⟨y.pl,h⟩:Mk)]) (i+1)).pl-(gD (x.ms ++ [(⟨y.pl,h⟩:Mk)]) i).pl<=30
  rw[Mi x.ms _ (show i<_ by omega)]
  rcases Nat.lt_or_ge (i+1) x.ms.length with q | q
  ·rw[Mi x.ms _ q];exact hx.far i q
  ·rw[dM x.ms _ (by omega)];exact (hg i (by omega)).1
 ·intro i hi
  have hi:i+1<(x.ms ++ [(⟨y.pl,h⟩:Mk)]).length:=hi
  rw[lm] at hi
  show dU a.s*((gD (x.ms ++ [(⟨y.pl,h⟩:Mk)]) (i+1)).pl-(gD (x.ms ++ [(⟨y.pl,h⟩:Mk)]) i).pl)<=gD (x.t ++ [y.tm]) (i+1)-gD (x.t ++ [y.tm]) i
  rw[Mi x.ms _ (show i<_ by omega),Mi x.t _ (show i<_ by omega)]
  rcases Nat.lt_or_ge (i+1) x.ms.length with q | q
  ·rw[Mi x.ms _ q,Mi x.t _ (by omega)];exact hx.lo i q
  ·rw[dM x.ms _ (by omega),dM x.t _ (by omega)];exact (hg i (by omega)).2.1
 ·intro i hi hn
  have hi:i+1<(x.ms ++ [(⟨y.pl,h⟩:Mk)]).length:=hi
  rw[lm] at hi
  have hn:¬ (i:Int)∈y.z:=hn
  show gD (x.t ++ [y.tm]) (i+1)-gD (x.t ++ [y.tm]) i<=hHi a.s*((gD (x.ms ++ [(⟨y.pl,h⟩:Mk)]) (i+1)).pl-(gD (x.ms ++ [(⟨y.pl,h⟩:Mk)]) i).pl)
  rw[Mi x.ms _ (show i<_ by omega),Mi x.t _ (show i<_ by omega)]
  rcases Nat.lt_or_ge (i+1) x.ms.length with q | q
  ·rw[Mi x.ms _ q,Mi x.t _ (by omega)]
   refine hx.hi i q λhm=>hn ?_
   rcases hz with hz | ⟨_,_,hz⟩<;>rw[hz]
   ·exact hm
   ·exact List.mem_append_left _ hm
  ·rw[dM x.ms _ (by omega),dM x.t _ (by omega)];exact (hg i (by omega)).2.2 hn
 ·intro g hm
  have hm:g∈y.z:=hm
  show 0<=g/\g+1<((x.ms ++ [(⟨y.pl,h⟩:Mk)]).length:Int)
  rw[lm]
  rcases hz with hz | ⟨_,hl,hz⟩<;>rw[hz] at hm
  ·have:=hx.zb g hm;omega
  ·rcases List.mem_append.1 hm with hm | hm
   ·have:=hx.zb g hm;omega
   ·have:=List.mem_singleton.1 hm;omega
 ·show y.z.Pairwise (· < ·)
  rcases hz with hz | ⟨_,hl,hz⟩<;>rw[hz]
  ·exact hx.zs
  ·rw[List.pairwise_append]
   refine⟨hx.zs,List.pairwise_singleton _ _,λg hg k hk=>?_⟩
   have:=hx.zb g hg
   have:=List.mem_singleton.1 hk
   omega
 ·intro hb
  show y.z=[]
  rcases hz with hz | ⟨hb2,_,_⟩
  ·rw[hz];exact hx.zn hb
  ·rw[hb] at hb2;cases hb2
theorem MdI.step{a:MkIQ}(hd:HdB a){K:Int}{x:MS}(hx:MdI a x)(hs:StmBQ K x.s)(hK:K<=900)(hl:x.ms.length<=50):MdI a (stpC a x)/\StmBQ (K+6) (stpC a x).s/\(stpC a x).ms.length=x.ms.length+1:=by
 rcases Nat.eq_zero_or_pos x.ms.length with h0 | h0
 ·have eg:goMQ a x=x:=go_0 (List.length_eq_zero_iff.1 h0)
  obtain⟨h,v,s,e,q1,q2,q3⟩:=addF hd hs (by omega)
  have e:stpC a x=_:=(show stpC a x=addM a x by unfold stpC;rw[eg]).trans e
  obtain⟨z1,z2,z3⟩:=hx.zero h0
  rw[e]
  exact⟨hx.add rfl rfl rfl (by rw[h0];omega) (by rw[h0];omega) (λi hi=>by omega) (.inl rfl) q1 q2,q3.mono (by omega),by show (x.ms ++ [_]).length=_;simp⟩
 ·obtain⟨l1,l2⟩:=hx.last h0
  have p1:=hx.plb (x.ms.length-1) (by omega)
  have t1:=hx.tm (x.ms.length-1) (by omega)
  have gf:=goFQ hd hs (by omega) h0 (by omega) (by rw[<-l1];omega) (by rw[<-l2];omega)
  obtain⟨h,v,s,e,q1,q2,q3⟩:=addF hd gf.s (by omega)
  have e:stpC a x=_:=e
  rw[e]
  have f1:=gf.far
  have f2:=gf.up
  refine⟨hx.add gf.ms gf.t gf.st (by omega) (by omega) (λi hi=>?_) ?_ q1 q2,q3.mono (by omega),by show ((goMQ a x).ms ++ [_]).length=_;rw[gf.ms];simp⟩
  ·obtain rfl:i=x.ms.length-1:=by omega
   rw[l1,l2]
   refine⟨gf.far,gf.lo,λhn=>?_⟩
   rcases gf.z with⟨_,z⟩ | ⟨_,z⟩
   ·exact z
   ·exact absurd (by rw[z];exact List.mem_append_right _ (List.mem_singleton.2 (by omega))) hn
  ·rcases gf.z with⟨z,_⟩ | ⟨b,z⟩
   ·exact .inl z
   ·exact .inr ⟨b,h0,z⟩
theorem MdI.all{a:MkIQ}(hd:HdB a):∀(n:Nat) {K:Int} {x:MS},MdI a x->StmBQ K x.s->x.ms.length+n<=50->K+6*n<=800->MdI a (R4 a n x)/\StmBQ (K+6*n) (R4 a n x).s/\(R4 a n x).ms.length=x.ms.length+n
 |0,K,x,hx,hs,_,_=>⟨hx,hs.mono (by omega),rfl⟩
 |n+1,K,x,hx,hs,hl,hK=>by
  obtain⟨a1,a2,a3⟩:=hx.step hd hs (by omega) (by omega)
  obtain⟨b1,b2,b3⟩:=MdI.all hd n a1 a2 (by omega) (by omega)
  exact⟨b1,b2.mono (by omega),by show (R4 a n (stpC a x)).ms.length=_;omega⟩
theorem MdI.nil{a:MkIQ}{s:StmQ}{tm:Int}(h:0<=tm/\tm<=299):MdI a ⟨s,0,tm,[],[],[],[]⟩:=
 ⟨rfl,rfl,λ_=>⟨rfl,h,rfl⟩,λh=>absurd h (Nat.lt_irrefl 0),λi h=>absurd h (Nat.not_lt_zero i),λi h=>absurd h (Nat.not_lt_zero i),λi h=>absurd h (Nat.not_lt_zero i),λi h=>absurd h (Nat.not_lt_zero i),λi h=>absurd h (Nat.not_lt_zero _),λi h=>absurd h (Nat.not_lt_zero _),λi h=>absurd h (Nat.not_lt_zero _),λg h=>(by cases h),.nil,λ_=>rfl⟩
theorem BJI{a:MkIQ}(h:wD a):MdI a (mS a)/\StmBQ 100 (mS a).s/\(mS a).ms.length=mN a:=by
 have hd:=hdB h
 obtain⟨n1,n2,n3⟩:=CAI h
 obtain⟨_,_,_,_,_,b6⟩:=AXV h
 have m2:=h.2.2
 have s7:=MV b6 (by omega) 1 a.m
 have i0:MdI a ⟨Jj (gS6 a.s) 1 a.m,0,hTm a.s,[],[],[],[]⟩:=MdI.nil hd.tm
 have i0:MdI a (mS0 a):=i0
 have l0:(mS0 a).ms.length+mN a<=50:=by show 0+mN a<=50;omega
 have s0:StmBQ 7 (mS0 a).s:=s7.mono (by omega)
 obtain⟨c1,c2,c3⟩:=MdI.all hd (mN a) i0 s0 l0 (by omega)
 have e:mS a=R4 a (mN a) (mS0 a):=rfl
 rw[e]
 generalize R4 a (mN a) (mS0 a)=M at *
 refine⟨c1,c2.mono (by omega),c3.trans ?_⟩
 show 0+mN a=mN a;omega
def nOk(a:MkIQ)(n:Nt):Prop:=∃j:Nat,n.mi=j/\j<(mS a).ms.length/\n.t.has (gD (mS a).t j)/\(0<=n.t.lo/\n.t.hi<=100000)/\n.s.has (gD (mS a).st j) /\ -10000<=n.s.lo/\n.s.hi<=10000
structure NtJ(a:MkIQ)(l:List Nt):Prop where
 all:∀n∈l,nOk a n
 one:∀i j,i<l.length->j<l.length->i≠j->(gD l i).mi≠(gD l j).mi
theorem CNI{a:MkIQ}(hm:MdI a (mS a))(hd:HdB a){K:Int}{s:StmQ}(hs:StmBQ K s)(hK:K<=1000){i:Nat}(hi:i<(mS a).ms.length)(hl:(mS a).ms.length<=50):nOk a (mkNt a s i)/\StmBQ (K+4) (nS5 s):=by
 have s2:=hs.next (by omega) 40
 have s3:=s2.next (by omega) 40
 have s4:=s3.next (by omega) 9
 have s5:=s4.next (by omega) 9
 have v1:=PY hs (by omega) 40
 have v2:=PY s2 (by omega) 40
 have v3:=PY s3 (by omega) 9
 have v4:=PY s4 (by omega) 9
 have w1:=v1.2 (by omega)
 have w2:=v2.2 (by omega)
 have w3:=v3.2 (by omega)
 have w4:=v4.2 (by omega)
 have t1:=hm.tm i hi
 have h1:=hm.ht i hi
 have st:=hm.st i hi
 have m:=AMA (a:=R6 a.s) (b:=(gD (mS a).ms i).ht) (A:=11) (B:=59) hd.sc.1 hd.sc.2 h1.1 h1.2
 have d1:=hd.bs
 have d2:=hd.of
 have e1:GM (gD (mS a).t i-AY s 40)=gD (mS a).t i-AY s 40:=ER (by omega) (by omega)
 have e2:GM (gD (mS a).t i+AY (nS2 s) 40)=gD (mS a).t i+AY (nS2 s) 40:=ER (by unfold nS2;omega) (by unfold nS2;omega)
 have e3:GM (gD (mS a).st i-AY (nS3 s) 9)=gD (mS a).st i-AY (nS3 s) 9:=ER (by unfold nS3 nS2;omega) (by unfold nS3 nS2;omega)
 have e4:GM (gD (mS a).st i+AY (nS4 s) 9)=gD (mS a).st i+AY (nS4 s) 9:=ER (by unfold nS4 nS3 nS2;omega) (by unfold nS4 nS3 nS2;omega)
 refine⟨?_,s5.mono (by omega)⟩
 unfold mkNt
 rw[e1,e2,e3,e4]
 have w2':0<=AY (nS2 s) 40/\AY (nS2 s) 40<40:=⟨v2.1,w2⟩
 have w3':0<=AY (nS3 s) 9/\AY (nS3 s) 9<9:=⟨v3.1,w3⟩
 have w4':0<=AY (nS4 s) 9/\AY (nS4 s) 9<9:=⟨v4.1,w4⟩
 have mx:=ANC 0 (gD (mS a).t i-AY s 40)
 have mx2:EU 0 (gD (mS a).t i-AY s 40)<=gD (mS a).t i:=ANE.2 (by omega)
 refine⟨i,rfl,hi,⟨mx2,?_⟩,⟨mx.1,?_⟩,⟨?_,?_⟩,?_,?_⟩
 ·show gD (mS a).t i<=gD (mS a).t i+AY (nS2 s) 40;omega
 ·show gD (mS a).t i+AY (nS2 s) 40<=100000;omega
 ·show gD (mS a).st i-AY (nS3 s) 9<=gD (mS a).st i;omega
 ·show gD (mS a).st i<=gD (mS a).st i+AY (nS4 s) 9;omega
 ·show -10000<=gD (mS a).st i-AY (nS3 s) 9;omega
 ·show gD (mS a).st i+AY (nS4 s) 9<=10000;omega
theorem BKY{a:MkIQ}(hm:MdI a (mS a))(hd:HdB a)(hl:(mS a).ms.length<=50):∀(n i:Nat) {K:Int} {x:NSt},i+n=(mS a).ms.length->StmBQ K x.s->K+5*n<=900->NtJ a x.ns->(∀t∈x.ns,t.mi<i)->x.ns.length<=i->NtJ a (mkN a n i x).ns/\StmBQ (K+5*n) (mkN a n i x).s/\(mkN a n i x).ns.length<=i+n
 |0,i,K,x,_,hs,_,hN,_,h5=>⟨hN,hs.mono (by omega),h5⟩
 |n+1,i,K,x,hi,hs,hK,hN,h4,h5=>by
  have s1:=hs.next (by omega) 2
  show NtJ a (mkN a n (i+1) (stpN a i x)).ns/\StmBQ _ (mkN a n (i+1) (stpN a i x)).s/\(mkN a n (i+1) (stpN a i x)).ns.length<=_
  unfold stpN
  cases AY x.s 2==0 with
  |false=>
   obtain⟨r1,r2,r3⟩:=BKY hm hd hl n (i+1) (x:=⟨BL x.s 2,x.ns⟩) (by omega) s1 (by omega) hN (λt ht=>by have:=h4 t ht;omega) (by show x.ns.length<=_;omega)
   exact⟨r1,r2.mono (by omega),by show (mkN a n (i+1) ⟨BL x.s 2,x.ns⟩).ns.length<=_;omega⟩
  |true=>
   obtain⟨k1,k2⟩:=CNI hm hd s1 (by omega) (i:=i) (by omega) hl
   have hN2:NtJ a (x.ns ++ [mkNt a (BL x.s 2) i]):=by
    refine⟨λt ht=>?_,λj k hj hk hjk=>?_⟩
    ·rcases List.mem_append.1 ht with ht | ht
     ·exact hN.all t ht
     ·rw[List.mem_singleton.1 ht];exact k1
    ·rw[List.length_append] at hj hk
     have hj:j<x.ns.length+1:=hj
     have hk:k<x.ns.length+1:=hk
     have em:(mkNt a (BL x.s 2) i).mi=i:=rfl
     rcases Nat.lt_or_ge j x.ns.length with q | q<;>rcases Nat.lt_or_ge k x.ns.length with r | r
     ·rw[Mi _ _ q,Mi _ _ r];exact hN.one j k q r hjk
     ·rw[Mi _ _ q,dM _ _ (by omega),em]
      have:=h4 _ (FD q);omega
     ·rw[dM _ _ (by omega),Mi _ _ r,em]
      have:=h4 _ (FD r);omega
     ·omega
   obtain⟨r1,r2,r3⟩:=BKY hm hd hl n (i+1) (x:=⟨nS5 (BL x.s 2),x.ns ++ [mkNt a (BL x.s 2) i]⟩) (by omega) k2 (by omega) hN2 (λt ht=>by
    rcases List.mem_append.1 ht with ht | ht
    ·have:=h4 t ht;omega
    ·rw[List.mem_singleton.1 ht];show (i:Int)<((i+1:Nat):Int);omega) (by show (x.ns ++ [_]).length<=_;rw[List.length_append];show x.ns.length+1<=i+1;omega)
   exact⟨r1,r2.mono (by omega),by show (mkN a n (i+1) ⟨nS5 (BL x.s 2),x.ns ++ [mkNt a (BL x.s 2) i]⟩).ns.length<=_;omega⟩
theorem CVD{a:MkIQ}{l:List Nt}{i k:Nat}(hi:i<l.length)(hk:k<l.length)(h:NtJ a l):NtJ a (swN l i k):=by
 have hat:=λt=>CGY (l:=l) hi hk (t:=t)
 refine⟨λn hn=>?_,λu v hu hv huv=>?_⟩
 ·obtain⟨t,ht,rfl⟩:=Hq hn
  rw[cV] at ht
  rw[hat t]
  cases decide (t=k) with
  |true=>exact h.all _ (FD hi)
  |false=>
   cases decide (t=i) with
   |true=>exact h.all _ (FD hk)
   |false=>exact h.all _ (FD ht)
 ·rw[cV] at hu hv
  rw[hat u,hat v]
  by_cases u1:u=k
  ·subst u1
   have v1:¬ v=u:=λe=>huv e.symm
   rw[decide_eq_true rfl,decide_eq_false v1]
   show (gD l i).mi≠(bif decide (v=i) then gD l u else gD l v).mi
   by_cases v2:v=i
   ·rw[decide_eq_true v2];exact h.one i u hi hu (by omega)
   ·rw[decide_eq_false v2];exact h.one i v hi hv (by omega)
  ·rw[decide_eq_false u1]
   by_cases v1:v=k
   ·subst v1
    rw[decide_eq_true rfl]
    show (bif decide (u=i) then gD l v else gD l u).mi≠(gD l i).mi
    by_cases u2:u=i
    ·rw[decide_eq_true u2];exact h.one v i hv hi (by omega)
    ·rw[decide_eq_false u2];exact h.one u i hu hi (by omega)
   ·rw[decide_eq_false v1]
    show (bif decide (u=i) then gD l k else gD l u).mi≠(bif decide (v=i) then gD l k else gD l v).mi
    by_cases u2:u=i
    ·have v2:¬ v=i:=by omega
     rw[decide_eq_true u2,decide_eq_false v2];exact h.one k v hk hv (by omega)
    ·rw[decide_eq_false u2]
     by_cases v2:v=i
     ·rw[decide_eq_true v2];exact h.one u k hu hk (by omega)
     ·rw[decide_eq_false v2];exact h.one u v hu hv huv
theorem CDP{a:MkIQ}:∀(j:Nat) {K:Int} {x:NSt},(0<j->j<x.ns.length)->StmBQ K x.s->K+j<=2000->NtJ a x.ns->NtJ a (shK j x).ns/\(shK j x).ns.length=x.ns.length
 |0,K,x,_,_,_,h=>⟨h,rfl⟩
 |j+1,K,x,hj,hs,hK,h=>by
  have hj:=hj (Nat.succ_pos _)
  have v:=PY hs (by omega) ((j:Int)+2)
  have w:=v.2 (by omega)
  have s1:=hs.next (by omega) ((j:Int)+2)
  obtain⟨r1,r2⟩:=CDP j (x:=⟨BL x.s ((j:Int)+2),swN x.ns (j+1) (AY x.s ((j:Int)+2)).toNat⟩) (λ_=>by show j<(swN _ _ _).length;rw[cV];omega) s1 (by omega) (CVD hj (by omega) h)
  exact⟨r1,r2.trans (cV _ _ _)⟩
structure MadeF(a:MkIQ):Prop where
 ok:ChOk (TC a)
 len:(1<=(TC a).ms.length/\((TC a).ms.length:Int)<=a.m)/\(eD a).t.length=(TC a).ms.length/\(eD a).s.length=(TC a).ms.length/\(TC a).ns.length<=(TC a).ms.length
 bd:(-50<=(TC a).base/\(TC a).base<=400)/\(0<=(TC a).scale/\(TC a).scale<=11)/\(0<=(TC a).off/\(TC a).off<=8)/\(1<=(TC a).p.lo/\(TC a).p.hi<=17)
 tr:∀sp:Nat->Bool,(∀g:Nat,(g:Int)∈(eD a).z->sp g=true)->TrC (TC a) sp (gD (eD a).t)
 st:∀i,i<(TC a).ms.length->(lN (TC a) i).has (gD (eD a).s i)
 tb:∀i,i<(TC a).ms.length->0<=gD (eD a).t i/\gD (eD a).t i<=20000
 sb:∀i,i<(TC a).ms.length -> -10000<=gD (eD a).s i/\gD (eD a).s i<=10000
 z:okZ ⟨TC a,(eD a).z⟩=true
 zn:a.b=false->(eD a).z=[]
 nt:∀n∈(TC a).ns,nOk a n
 up:∀i,i+1<(TC a).ms.length->gD (eD a).t i<gD (eD a).t (i+1)
theorem CYE{a:MkIQ}(h:wD a):MadeF a:=by
 have hd:=hdB h
 obtain⟨hm,hs,hl⟩:=BJI h
 obtain⟨n1,n2,n3⟩:=CAI h
 have m2:=h.2.2
 have hN0:NtJ a ([]:List Nt):=⟨λn h=>(by cases h),λi j h=>absurd h (Nat.not_lt_zero _)⟩
 obtain⟨k1,k2,k3⟩:=BKY hm hd (by omega) (mS a).ms.length 0 (x:=⟨(mS a).s,[]⟩) (by omega) hs (by omega) hN0 (λt h=>(by cases h)) (Nat.le_refl _)
 have k1:NtJ a (mNs a).ns:=k1
 have k2:StmBQ (100+5*((mS a).ms.length:Int)) (mNs a).s:=k2
 have k3:(mNs a).ns.length<=0+(mS a).ms.length:=k3
 obtain⟨e1,e2⟩:=CDP (a:=a) ((mNs a).ns.length-1) (x:=mNs a) (by omega) k2 (by omega) k1
 have e1:NtJ a (mE a).ns:=e1
 have e2:(mE a).ns.length=(mNs a).ns.length:=e2
 have ok:ChOk (TC a):=by
  have d1:=hd.lo
  have d2:=hd.hi
  have d3:=hd.bs
  have d4:=hd.sc
  have d5:=hd.of
  refine⟨by show 1<=(mS a).ms.length/\(mS a).ms.length<=40;omega,by show (mE a).ns.length<=20;omega,by show 1<=dU a.s/\dU a.s<=hHi a.s/\hHi a.s<=600;omega,by show -1000000<=hBs a.s/\hBs a.s<=1000000;omega,by show 0<=R6 a.s/\R6 a.s<=1000;omega,by show 0<=wK a.s/\wK a.s<=1000;omega,λi hi=>?_,λi hi=>?_,λn hn=>?_,λi j hij hj=>e1.one i j (Nat.lt_trans hij hj) hj (by omega)⟩
  ·have hi:i<(mS a).ms.length:=hi
   have p:=hm.plb i hi
   have q:=hm.ht i hi
   show (0<=(gD (mS a).ms i).pl/\(gD (mS a).ms i).pl<=10000)/\0<=(gD (mS a).ms i).ht/\(gD (mS a).ms i).ht<=1000
   omega
  ·have p:=hm.far i hi
   show (gD (mS a).ms i).pl<(gD (mS a).ms (i+1)).pl
   omega
  ·obtain⟨j,j1,j2,⟨j3,j4⟩,⟨j5,j6⟩,⟨j7,j8⟩,j9,j10⟩:=e1.all n hn
   have q:(TC a).ms.length=(mS a).ms.length:=rfl
   exact⟨by rw[q];omega,by omega,by omega⟩
 have no:∀i:Nat,i<(mS a).ms.length->hasN (TC a).ns (i:Int)=true->(ntOf (TC a).ns (i:Int)).t.has (gD (mS a).t i)/\(ntOf (TC a).ns (i:Int)).s.has (gD (mS a).st i):=λi hi hh=>by
  obtain⟨q1,q2⟩:=AFI hh
  obtain⟨j,j1,j2,j3,_,j5,_⟩:=e1.all _ q1
  rw[q2] at j1
  obtain rfl:i=j:=by omega
  exact⟨j3,j5⟩
 have sb:∀i,i<(mS a).ms.length -> -10000<=gD (mS a).st i/\gD (mS a).st i<=10000:=λi hi=>by
  have h1:=hm.ht i hi
  have st:=hm.st i hi
  have m:=AMA (a:=R6 a.s) (b:=(gD (mS a).ms i).ht) (A:=11) (B:=59) hd.sc.1 hd.sc.2 h1.1 h1.2
  have d1:=hd.bs
  have d2:=hd.of
  omega
 refine⟨ok,⟨by show 1<=(mS a).ms.length/\((mS a).ms.length:Int)<=a.m;omega,hm.tl,hm.sl,by show (mE a).ns.length<=(mS a).ms.length;omega⟩,⟨hd.bs,hd.sc,hd.of,hd.lo.1,hd.hi.2⟩,λsp hsp=>⟨λi hi=>?_,λg hg=>?_⟩,λi hi=>?_,λi hi=>?_,sb,?_,hm.zn,e1.all,λi hi=>?_⟩
 ·have hi:i<(mS a).ms.length:=by have:(TC a).ms.length=(mS a).ms.length:=rfl;omega
  have t:=hm.tm i hi
  show (notM (TC a) (i:Int)).has (gD (mS a).t i)
  unfold notM
  cases hh:hasN (TC a).ns (i:Int) with
  |false=>show -100000000<=gD (mS a).t i/\gD (mS a).t i<=100000000;omega
  |true=>exact (no i hi hh).1
 ·have hg:g+1<(mS a).ms.length:=by have:(TC a).ms.length=(mS a).ms.length:=rfl;omega
  refine⟨hm.lo g hg,?_⟩
  show gD (mS a).t (g+1)-gD (mS a).t g<=bif sp g then 200000000 else hHi a.s*((gD (mS a).ms (g+1)).pl-(gD (mS a).ms g).pl)
  have t1:=hm.tm g (by omega)
  have t2:=hm.tm (g+1) hg
  cases hp:sp g with
  |true=>show _<=(200000000:Int);omega
  |false=>exact hm.hi g hg λhz=>by rw[hsp g hz] at hp;cases hp
 ·have hi:i<(mS a).ms.length:=hi
  have h1:=hm.ht i hi
  have st:=hm.st i hi
  have m:=AMA (a:=R6 a.s) (b:=(gD (mS a).ms i).ht) (A:=11) (B:=59) hd.sc.1 hd.sc.2 h1.1 h1.2
  have d1:=hd.bs
  have d2:=hd.of
  have x1:GM (R6 a.s*(gD (mS a).ms i).ht)=R6 a.s*(gD (mS a).ms i).ht:=ER (by omega) (by omega)
  have x2:atMQ (TC a) (i:Int)=hBs a.s+R6 a.s*(gD (mS a).ms i).ht:=by
   show GM (hBs a.s+GM (R6 a.s*(gD (mS a).ms i).ht))=_
   rw[x1];exact ER (by omega) (by omega)
  have x3:(st0 (TC a) (i:Int)).has (gD (mS a).st i):=by
   show GM (atMQ (TC a) (i:Int)-wK a.s)<=_/\_<=GM (atMQ (TC a) (i:Int)+wK a.s)
   rw[x2]
   have y1:GM (hBs a.s+R6 a.s*(gD (mS a).ms i).ht-wK a.s)=hBs a.s+R6 a.s*(gD (mS a).ms i).ht-wK a.s:=ER (by omega) (by omega)
   have y2:GM (hBs a.s+R6 a.s*(gD (mS a).ms i).ht+wK a.s)=hBs a.s+R6 a.s*(gD (mS a).ms i).ht+wK a.s:=ER (by omega) (by omega)
   rw[y1,y2];exact st
  show (lN (TC a) (i:Int)).has (gD (mS a).st i)
  unfold lN
  cases hh:hasN (TC a).ns (i:Int) with
  |false=>exact x3
  |true=>exact dS.2 ⟨x3,(no i hi hh).2⟩
 ·have hi:i<(mS a).ms.length:=hi
  have t:=hm.tm i hi
  show 0<=gD (mS a).t i/\gD (mS a).t i<=20000
  omega
 ·exact (BRS (a:=⟨TC a,(eD a).z⟩) ok.m).2 ⟨hm.zb,hm.zs⟩
 ·have hi:i+1<(mS a).ms.length:=hi
  have f:=hm.far i hi
  have l:=hm.lo i hi
  have p:1*1<=dU a.s*((gD (mS a).ms (i+1)).pl-(gD (mS a).ms i).pl):=Int.mul_le_mul hd.lo.1 f.1 (by omega) (by have:=hd.lo;omega)
  show gD (mS a).t i<gD (mS a).t (i+1)
  omega
theorem M5(a b:Int):EU a b=a/\b<=a∨EU a b=b/\a<=b:=by unfold EU;split<;>omega
theorem BID(a b:Int):IF a b=a/\a<=b∨IF a b=b/\b<=a:=by unfold IF;split<;>omega
def HulIs(h:Hul)(S:Span->Prop):Prop:=(h.m=true->(∃s,S s/\s.lo=h.s.lo)/\∃s,S s/\s.hi=h.s.hi)/\∀s,S s->h.m=true/\h.s.lo<=s.lo/\s.hi<=h.s.hi
theorem HulIs.zero{S:Span->Prop}(h:∀s,¬ S s):HulIs zHul S:=⟨λh=>(by cases h),λs hs=>absurd hs (h s)⟩
theorem HulIs.ext{h:Hul}{S T:Span->Prop}(hs:HulIs h S)(e:∀s,S s↔T s):HulIs h T:=
 ⟨λhm=>let ⟨⟨a,a1,a2⟩,b,b1,b2⟩:=hs.1 hm;⟨⟨a,(e a).1 a1,a2⟩,b,(e b).1 b1,b2⟩,λs q=>hs.2 s ((e s).2 q)⟩
theorem HulIs.add{h:Hul}{S:Span->Prop}(hs:HulIs h S)(x:Span):HulIs (jL h x) λs=>S s∨s=x:=by
 cases hm:h.m with
 |false=>
  have no:∀s,¬ S s:=λs q=>by have:=(hs.2 s q).1;rw[hm] at this;cases this
  have e:jL h x=⟨x,true⟩:=by unfold jL;rw[hm];rfl
  rw[e]
  exact⟨λ_=>⟨⟨x,.inr rfl,rfl⟩,x,.inr rfl,rfl⟩,λs q=>q.elim (λq=>absurd q (no s)) λq=>by subst q;exact⟨rfl,Int.le_refl _,Int.le_refl _⟩⟩
 |true=>
  have e:jL h x=⟨⟨IF x.lo h.s.lo,EU x.hi h.s.hi⟩,true⟩:=by unfold jL;rw[hm];rfl
  obtain⟨⟨a,a1,a2⟩,b,b1,b2⟩:=hs.1 hm
  have m1:=AXN x.lo h.s.lo
  have m2:=ANC x.hi h.s.hi
  rw[e]
  refine⟨λ_=>⟨?_,?_⟩,λs q=>⟨rfl,?_,?_⟩⟩
  ·show ∃s,(S s∨s=x)/\s.lo=IF x.lo h.s.lo
   rcases BID x.lo h.s.lo with⟨q,_⟩ | ⟨q,_⟩<;>rw[q]
   ·exact⟨x,.inr rfl,rfl⟩
   ·exact⟨a,.inl a1,a2⟩
  ·show ∃s,(S s∨s=x)/\s.hi=EU x.hi h.s.hi
   rcases M5 x.hi h.s.hi with⟨q,_⟩ | ⟨q,_⟩<;>rw[q]
   ·exact⟨x,.inr rfl,rfl⟩
   ·exact⟨b,.inl b1,b2⟩
  ·show IF x.lo h.s.lo<=s.lo
   rcases q with q | q
   ·have:=(hs.2 s q).2;omega
   ·subst q;exact m1.1
  ·show s.hi<=EU x.hi h.s.hi
   rcases q with q | q
   ·have:=(hs.2 s q).2;omega
   ·subst q;exact m2.1
theorem HulIs.who{h:Hul}{S:Span->Prop}(hs:HulIs h S):(∃s,S s)/\(xS h).2=0/\(xS h).1=h.s/\h.m=true∨(∀s,¬ S s)/\xS h=(⟨0,0⟩,5):=by
 cases hm:h.m with
 |true=>
  obtain⟨⟨a,a1,_⟩,_⟩:=hs.1 hm
  exact .inl ⟨⟨a,a1⟩,by unfold xS;rw[hm];rfl,by unfold xS;rw[hm];rfl,rfl⟩
 |false=>exact .inr ⟨λs q=>(by have:=(hs.2 s q).1;rw[hm] at this;cases this),by unfold xS;rw[hm];rfl⟩
theorem TrC.bd{c:Cht}(h:ChOk c){sp:Nat->Bool}{u:Nat->Int}(hu:TrC c sp u){i:Nat}(hi:i<c.ms.length):-100000000<=u i/\u i<=100000000:=by
 have n:=hu.note hi
 have b:=(AZO h (i:Int)).1
 unfold Nk at b
 unfold Span.has at n
 omega
theorem TrC.inc{c:Cht}(h:ChOk c){sp:Nat->Bool}{u:Nat->Int}(hu:TrC c sp u){g:Nat}(hg:g+1<c.ms.length):u g<u (g+1):=by
 have a:=(hu.gap g (by omega)).1
 have b:=(h.gap sp hg).1
 have a:c.p.lo*Vh c g<=u (g+1)-u g:=a
 omega
theorem TrC.lt{c:Cht}(h:ChOk c){sp:Nat->Bool}{u:Nat->Int}(hu:TrC c sp u){i:Nat}:∀{j:Nat},i<j->j<c.ms.length->u i<u j
 |j+1,hij,hj=>by
  have:=hu.inc h hj
  rcases Nat.lt_or_ge i j with q | q
  ·have:=hu.lt h q (by omega);omega
  ·obtain rfl:i=j:=by omega
   exact this
theorem TrC.le{c:Cht}(h:ChOk c){sp:Nat->Bool}{u:Nat->Int}(hu:TrC c sp u){i j:Nat}(hij:i<=j)(hj:j<c.ms.length):u i<=u j:=by
 rcases Nat.lt_or_ge i j with q | q
 ·exact Int.le_of_lt (hu.lt h q hj)
 ·obtain rfl:i=j:=by omega
  exact Int.le_refl _
theorem BCL{c:Cht}{i:Nat}(hi:i<c.ms.length):gD (Eo c) i=lN c i:=CS _ _ _ hi
def StS(a:CZ)(t:Int)(s:Span):Prop:=∃u,TrC a.c (XK a).sp u/\((∃i,i<a.c.ms.length/\u i=t/\s=gD (Eo a.c) i)∨∃g,g+1<a.c.ms.length/\(u g<=t-1/\t+1<=u (g+1))/\(s=gD (Eo a.c) g∨s=gD (Eo a.c) (g+1)))
theorem BBB(a:CZ)(t:Int):∀k,HulIs (hul1 a t k) λs=>∃i,i<k/\(gD (Sq a) i).has t/\s=gD (Eo a.c) i
 |0=>HulIs.zero λs ⟨i,h,_⟩=>absurd h (Nat.not_lt_zero _)
 |k+1=>by
  have ih:=BBB a t k
  show HulIs (bif PX t (gD (Sq a) k).lo (gD (Sq a) k).hi then jL (hul1 a t k) (gD (Eo a.c) k) else hul1 a t k) _
  cases hi:PX t (gD (Sq a) k).lo (gD (Sq a) k).hi with
  |true=>
   refine (ih.add (gD (Eo a.c) k)).ext λs=>⟨?_,?_⟩
   ·rintro (⟨i,h1,h2⟩ | h)
    ·exact⟨i,by omega,h2⟩
    ·exact⟨k,Nat.lt_succ_self _,KR.1 hi,h⟩
   ·rintro⟨i,h1,h2,h3⟩
    rcases Nat.lt_or_ge i k with q | q
    ·exact .inl ⟨i,q,h2,h3⟩
    ·obtain rfl:i=k:=by omega
     exact .inr h3
  |false=>
   refine ih.ext λs=>⟨λ⟨i,h1,h2⟩=>⟨i,by omega,h2⟩,?_⟩
   rintro⟨i,h1,h2,h3⟩
   rcases Nat.lt_or_ge i k with q | q
   ·exact⟨i,q,h2,h3⟩
   ·obtain rfl:i=k:=by omega
    rw[KR.2 h2] at hi;cases hi
theorem BVN(a:CZ)(t:Int):∀k,HulIs (hul2 a t k) λs=>(∃i,i<a.c.ms.length/\(gD (Sq a) i).has t/\s=gD (Eo a.c) i)∨∃g,g<k/\O8 a t g=true/\(s=gD (Eo a.c) g∨s=gD (Eo a.c) (g+1))
 |0=>(BBB a t a.c.ms.length).ext λs=>⟨.inl,λh=>h.elim id λ⟨g,h,_⟩=>absurd h (Nat.not_lt_zero _)⟩
 |k+1=>by
  have ih:=BVN a t k
  show HulIs (bif O8 a t k then jL (jL (hul2 a t k) (gD (Eo a.c) k)) (gD (Eo a.c) (k+1)) else hul2 a t k) _
  cases hi:O8 a t k with
  |true=>
   refine ((ih.add (gD (Eo a.c) k)).add (gD (Eo a.c) (k+1))).ext λs=>⟨?_,?_⟩
   ·rintro (((h | ⟨g,h1,h2⟩) | h) | h)
    ·exact .inl h
    ·exact .inr ⟨g,by omega,h2⟩
    ·exact .inr ⟨k,Nat.lt_succ_self _,hi,.inl h⟩
    ·exact .inr ⟨k,Nat.lt_succ_self _,hi,.inr h⟩
   ·rintro (h | ⟨g,h1,h2,h3⟩)
    ·exact .inl (.inl (.inl h))
    ·rcases Nat.lt_or_ge g k with q | q
     ·exact .inl (.inl (.inr ⟨g,q,h2,h3⟩))
     ·obtain rfl:g=k:=by omega
      rcases h3 with h3 | h3
      ·exact .inl (.inr h3)
      ·exact .inr h3
  |false=>
   refine ih.ext λs=>⟨λh=>h.elim .inl λ⟨g,h1,h2⟩=>.inr ⟨g,by omega,h2⟩,?_⟩
   rintro (h | ⟨g,h1,h2,h3⟩)
   ·exact .inl h
   ·rcases Nat.lt_or_ge g k with q | q
    ·exact .inr ⟨g,q,h2,h3⟩
    ·obtain rfl:g=k:=by omega
     rw[h2] at hi;cases hi
theorem CDS{a:CZ}(h:ChOk a.c)(hr:TA a=0)(t:Int):HulIs (wO ⟨a,t⟩) (StS a t):=by
 have hm:=h.m
 have one:∀s,(∃i,i<a.c.ms.length/\(gD (Sq a) i).has t/\s=gD (Eo a.c) i)↔∃u,TrC a.c (XK a).sp u/\∃i,i<a.c.ms.length/\u i=t/\s=gD (Eo a.c) i:=λs=>by
  constructor
  ·rintro⟨i,h1,h2,h3⟩
   obtain⟨u,u1,u2⟩:=(AUO h hr h1).1 h2
   exact⟨u,u1,i,h1,u2,h3⟩
  ·rintro⟨u,u1,i,h1,u2,h3⟩
   exact⟨i,h1,(AUO h hr h1).2 ⟨u,u1,u2⟩,h3⟩
 unfold wO
 cases hi:PX t (-100000000) 100000000 with
 |false=>
  refine (BBB a t a.c.ms.length).ext λs=>?_
  rw[one s]
  constructor
  ·rintro⟨u,u1,u2⟩;exact⟨u,u1,.inl u2⟩
  ·rintro⟨u,u1,u2 | ⟨g,g1,⟨g2,g3⟩,_⟩⟩
   ·exact⟨u,u1,u2⟩
   ·have b1:=u1.bd h (i:=g) (by omega)
    have b2:=u1.bd h g1
    rw[KR.2 (by omega)] at hi;cases hi
 |true=>
  have ht:=KR.1 hi
  refine (BVN a t (a.c.ms.length-1)).ext λs=>?_
  rw[one s]
  constructor
  ·rintro (⟨u,u1,u2⟩ | ⟨g,g1,g2,g3⟩)
   ·exact⟨u,u1,.inl u2⟩
   ·obtain⟨u,u1,u2⟩:=(BTS h hr (show g+1<_ by omega) ht).1 g2
    exact⟨u,u1,.inr ⟨g,by omega,u2,g3⟩⟩
  ·rintro⟨u,u1,u2 | ⟨g,g1,g2,g3⟩⟩
   ·exact .inl ⟨u,u1,u2⟩
   ·exact .inr ⟨g,by omega,(BTS h hr g1 ht).2 ⟨u,u1,g2⟩,g3⟩
theorem CJB{a:CZ}(h:ChOk a.c)(hz:okZ a=true)(hs:N0 a.c=true){t:Nat->Int}(ht:TrC a.c (XK a).sp t):TA a=0:=by
 unfold TA
 rw[CGB.2 h,hz,(BFA (w:=XK a) h).2 ⟨hs,t,ht⟩];rfl
theorem MadeF.stg{a:MkIQ}(h:MadeF a):N0 (TC a)=true:=BAX.2 λi hi=>by
 rw[BIO] at hi
 rw[BCL hi]
 exact Int.le_trans (h.st i hi).1 (h.st i hi).2
theorem MadeF.read{a:MkIQ}(h:MadeF a){z:List Int}(hz:okZ ⟨TC a,z⟩=true)(hs:∀g∈(eD a).z,g∈z):TA ⟨TC a,z⟩=0/\TrC (TC a) (XK ⟨TC a,z⟩).sp (gD (eD a).t):=by
 have t:=h.tr (XK ⟨TC a,z⟩).sp λg hg=>(CLH (a:=⟨TC a,z⟩) h.ok.m hz g).2 (hs _ hg)
 exact⟨CJB (a:=⟨TC a,z⟩) h.ok hz h.stg t,t⟩
theorem BPH{c:Cht}(h:ChOk c){i:Nat}(hi:i<c.ms.length):-3000000<=(gD (Eo c) i).lo/\(gD (Eo c) i).hi<=3000000:=by
 rw[BCL hi]
 have hb:=h.b
 have hs:=h.sc
 have ho:=h.of
 obtain⟨_,m1,m2⟩:=h.mks i hi
 have p0:=Int.mul_nonneg hs.1 m1
 have p1:=Int.mul_le_mul hs.2 m2 m1 (show (0:Int)<=1000 by omega)
 have e:atMQ c (i:Int)=c.base+c.scale*(gD c.ms i).ht:=by
  unfold atMQ GM
  rw[Int.toNat_natCast,ER (show _<=c.scale*(gD c.ms i).ht by omega) (by omega),ER (by omega) (by omega)]
 have e0:st0 c (i:Int)=⟨atMQ c i-c.off,atMQ c i+c.off⟩:=by
  unfold st0 GM
  rw[ER (show _<=atMQ c (i:Int)-c.off by omega) (by omega),ER (by omega) (by omega)]
 have h0:-3000000<=(st0 c (i:Int)).lo/\(st0 c (i:Int)).hi<=3000000:=by
  rw[e0,e];exact⟨by show _<=_-c.off;omega,by show _+c.off<=_;omega⟩
 unfold lN
 cases hasN c.ns (i:Int) with
 |false=>exact h0
 |true=>
  have a:=M5 (st0 c (i:Int)).lo (ntOf c.ns (i:Int)).s.lo
  have b:=BID (st0 c (i:Int)).hi (ntOf c.ns (i:Int)).s.hi
  exact⟨by show _<=EU _ _;omega,by show IF _ _<=_;omega⟩
theorem BLV{a:MkIQ}(h:MadeF a){k:Nat}(hk:k<(TC a).ms.length):(VJ ⟨⟨TC a,(eD a).z⟩,gD (eD a).t k⟩).2=0/\((VJ ⟨⟨TC a,(eD a).z⟩,gD (eD a).t k⟩).1.lo<=gD (eD a).s k/\gD (eD a).s k<=(VJ ⟨⟨TC a,(eD a).z⟩,gD (eD a).t k⟩).1.hi) /\ -3000000<=(VJ ⟨⟨TC a,(eD a).z⟩,gD (eD a).t k⟩).1.lo/\(VJ ⟨⟨TC a,(eD a).z⟩,gD (eD a).t k⟩).1.hi<=3000000:=by
 obtain⟨hr,ht⟩:=h.read h.z (λg hg=>hg)
 generalize hv:gD (eD a).t k=v
 have I:=CDS (a:=⟨TC a,(eD a).z⟩) h.ok hr v
 have e:VJ ⟨⟨TC a,(eD a).z⟩,v⟩=xS (wO ⟨⟨TC a,(eD a).z⟩,v⟩):=by unfold VJ;rw[show TA (CZI.mk ⟨TC a,(eD a).z⟩ v).a=0 from hr];rfl
 have me:StS ⟨TC a,(eD a).z⟩ v (gD (Eo (TC a)) k):=⟨gD (eD a).t,ht,.inl ⟨k,hk,hv,rfl⟩⟩
 rw[e]
 rcases I.who with⟨_,e1,e2,hm⟩ | ⟨no,_⟩
 ·rw[e2]
  have i2:=I.2 _ me
  have st:=h.st k hk
  rw[<-BCL hk] at st
  have st1:=st.1
  have st2:=st.2
  have bd:∀s,StS ⟨TC a,(eD a).z⟩ v s -> -3000000<=s.lo/\s.hi<=3000000:=λs ⟨u,_,q⟩=>by
   rcases q with⟨i,hi,_,rfl⟩ | ⟨g,hg,_,rfl | rfl⟩
   ·exact BPH h.ok hi
   ·exact BPH h.ok (show g<(TC a).ms.length from Nat.lt_of_succ_lt hg)
   ·exact BPH h.ok hg
  obtain⟨⟨s,s1,s2⟩,r,r1,r2⟩:=I.1 hm
  have b1:=bd s s1
  have b2:=bd r r1
  exact⟨e1,⟨by omega,by omega⟩,by omega,by omega⟩
 ·exact absurd me (no _)
theorem CDY:∀{z:List Int} {a b:Int},z.Pairwise (· < ·)->(∀g∈z,a<=g/\g<b)->(z.length:Int)<=b-a∨z=[]
 |[],_,_,_,_=>.inr rfl
 |g :: r,a,b,hp,hb=>by
  rw[List.pairwise_cons] at hp
  have h0:=hb g (List.mem_cons_self ..)
  rcases CDY (a:=g+1) (b:=b) hp.2 (λx hx=>by have:=hp.1 x hx;have:=hb x (List.mem_cons_of_mem _ hx);omega) with h | h
  ·left;rw[List.length_cons];omega
  ·subst h;left;show ((1:Nat):Int)<=_;omega
theorem CBW{bs:List Int}(h:∀i,i<bs.length->0<=gD bs i/\gD bs i<=255){m:Int}{b:Bool}(hm:1<=m/\m<=14):wD ⟨⟨bs,0,0⟩,m,b⟩:=⟨⟨⟨Int.le_refl _,Int.le_refl _⟩,⟨Int.le_refl _,by show (0:Int)<251;omega⟩,h⟩,hm⟩
end Go.Bal
