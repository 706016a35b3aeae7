/- Package chart: charts that are made of numbers are right, and have the truth that is made with them (no program in sight). -/
import Derived.Test.YtceloknnpdonhaaGreatChW
set_option linter.unusedVariables false
set_option linter.unusedSimpArgs false
namespace Go.Bal
open Go Go.Sym Go.Proofs
theorem BHT{m:Int}(hm:1<=m/\m<=1000):∀(z:List Int) (a:Int),-1<=a->a<=1000->(nR m a z=true↔(∀g∈z,a<g/\g+1<m)/\z.Pairwise (· < ·))
 |[],a,_,_=>⟨λ_=>⟨λg h=>(by cases h),.nil⟩,λ_=>rfl⟩
 |g :: r,a,h1,h2=>by
  show (bif XA g (MQ (a+1)) (MQ (m-2)) then nR m g r else false)=true↔_
  have e1:MQ (a+1)=a+1:=JC (by omega) (by omega)
  have e2:MQ (m-2)=m-2:=JC (by omega) (by omega)
  rw[e1,e2]
  cases hi:XA g (a+1) (m-2) with
  |false=>
   refine⟨λh=>(by cases h),λh=>?_⟩
   have:=h.1 g (List.mem_cons_self ..)
   rw[PX.2 (by omega)] at hi;cases hi
  |true=>
   have hb:=PX.1 hi
   have ih:=BHT hm r g (by omega) (by omega)
   show nR m g r=true↔_
   rw[ih,List.pairwise_cons]
   constructor
   ·rintro⟨q1,q2⟩
    refine⟨λx hx=>?_,λx hx=>(q1 x hx).1,q2⟩
    rcases List.mem_cons.1 hx with rfl | hx
    ·omega
    ·have:=q1 x hx;omega
   ·rintro⟨q1,q2,q3⟩
    exact⟨λx hx=>⟨q2 x hx,(q1 x (List.mem_cons_of_mem _ hx)).2⟩,q3⟩
theorem COY{m:Int}:∀(z:List Int) (a:Int) (f:Nat->Bool) (j:Nat),-1<=a->a<=1000->1<=m/\m<=1000->nR m a z=true->(stpF m a z f j=true↔f j=true∨(j:Int)∈z)
 |[],a,f,j,_,_,_,_=>⟨λh=>.inl h,λh=>h.elim id λh=>(by cases h)⟩
 |g :: r,a,f,j,h1,h2,hm,h=>by
  have hh:=(BHT hm (g :: r) a h1 h2).1 h
  have hg:=hh.1 g (List.mem_cons_self ..)
  have h:(bif XA g (MQ (a+1)) (MQ (m-2)) then nR m g r else false)=true:=h
  show (bif XA g (MQ (a+1)) (MQ (m-2)) then stpF m g r (λi=>bif decide (i=g.toNat) then true else f i) j else f j)=true↔_
  cases hi:XA g (MQ (a+1)) (MQ (m-2)) with
  |false=>rw[hi] at h;cases h
  |true=>
   rw[hi] at h
   show stpF m g r (λi=>bif decide (i=g.toNat) then true else f i) j=true↔_
   rw[COY r g _ j (by omega) (by omega) hm h,List.mem_cons]
   by_cases e:j=g.toNat
   ·rw[decide_eq_true e]
    exact⟨λ_=>.inr (.inl (by omega)),λ_=>.inl rfl⟩
   ·rw[decide_eq_false e]
    have:¬ (j:Int)=g:=by omega
    constructor
    ·rintro (q | q)
     ·exact .inl q
     ·exact .inr (.inr q)
    ·rintro (q | q | q)
     ·exact .inl q
     ·exact absurd q this
     ·exact .inr q
theorem CPW{a:CZ}(h:1<=a.c.ms.length/\a.c.ms.length<=40):okZ a=true↔(∀g∈a.z,0<=g/\g+1<a.c.ms.length)/\a.z.Pairwise (· < ·):=by
 unfold okZ
 rw[BHT (by omega) _ _ (by omega) (by omega)]
 exact⟨λq=>⟨λg hg=>by have:=q.1 g hg;omega,q.2⟩,λq=>⟨λg hg=>by have:=q.1 g hg;omega,q.2⟩⟩
theorem DIS{a:CZ}(h:1<=a.c.ms.length/\a.c.ms.length<=40)(hz:okZ a=true)(j:Nat):(Fh a).sp j=true↔(j:Int)∈a.z:=by
 show stpF a.c.ms.length (-1) a.z (λ_=>false) j=true↔_
 rw[COY a.z (-1) _ j (by omega) (by omega) (by omega) hz]
 exact⟨λq=>q.elim (λq=>by cases q) id,.inr⟩
structure HdB(a:MkIQ):Prop where
 lo:1<=ZN a.s/\ZN a.s<=12
 hi:ZN a.s<=Ig a.s/\Ig a.s<=17
 bs:-50<=Lx a.s/\Lx a.s<=400
 sc:0<=Ge a.s/\Ge a.s<=11
 of:0<=Ch a.s/\Ch a.s<=8
 tm:0<=hTm a.s/\hTm a.s<=299
theorem hdB{a:MkIQ}(h:AJS a):HdB a:=by
 obtain⟨b1,b2,b3,b4,b5,b6⟩:=BZP h
 have v1:1<=ZN a.s/\ZN a.s<=12:=yE h.1 (by omega) (lo:=1) (hi:=12) (by omega) (by omega) (by omega)
 have v2:=yE b1 (by omega) (lo:=-50) (hi:=400) (by omega) (by omega) (by omega)
 have v3:=WT b2 (by omega) 12
 have v4:=WT b3 (by omega) 9
 have v5:=WT b4 (by omega) 6
 have v6:=WT b5 (by omega) 300
 have w3:=v3.2 (by omega)
 have w4:=v4.2 (by omega)
 have w5:=v5.2 (by omega)
 have w6:=v6.2 (by omega)
 have e:Ig a.s=ZN a.s+BA (gS4 a.s) 6:=JC (by omega) (by omega)
 exact⟨v1,by omega,v2,⟨v3.1,by unfold Ge;omega⟩,⟨v4.1,by unfold Ch;omega⟩,⟨v6.1,by unfold hTm;omega⟩⟩
theorem Xo{α:Type}[Inhabited α](l:List α)(x:α){i:Nat}(h:i<l.length):gD (l ++ [x]) i=gD l i:=by rw[J8 _ _ (by omega),decide_eq_true h];rfl
theorem qT{α:Type}[Inhabited α](l:List α)(x:α){i:Nat}(h:i=l.length):gD (l ++ [x]) i=x:=by subst h;rw[J8 _ _ (by omega),decide_eq_false (by omega)];rfl
structure MdI(a:MkIQ)(x:MS):Prop where
 tl:x.t.length=x.ms.length
 sl:x.st.length=x.ms.length
 zero:x.ms.length=0->x.pl=0/\(0<=x.tm/\x.tm<=299)/\x.z=[]
 last:0<x.ms.length->(gD x.ms (x.ms.length-1)).pl=x.pl/\gD x.t (x.ms.length-1)=x.tm
 plb:∀i,i<x.ms.length->0<=(gD x.ms i).pl/\(gD x.ms i).pl<=30*i
 ht:∀i,i<x.ms.length->0<=(gD x.ms i).ht/\(gD x.ms i).ht<=59
 tm:∀i,i<x.ms.length->0<=gD x.t i/\gD x.t i<=299+1000*i
 st:∀i,i<x.ms.length->Lx a.s+Ge a.s*(gD x.ms i).ht-Ch a.s<=gD x.st i/\gD x.st i<=Lx a.s+Ge a.s*(gD x.ms i).ht+Ch a.s
 far:∀i,i+1<x.ms.length->1<=(gD x.ms (i+1)).pl-(gD x.ms i).pl/\(gD x.ms (i+1)).pl-(gD x.ms i).pl<=30
 lo:∀i,i+1<x.ms.length->ZN a.s*((gD x.ms (i+1)).pl-(gD x.ms i).pl)<=gD x.t (i+1)-gD x.t i
 hi:∀i:Nat,i+1<x.ms.length->¬ (i:Int)∈x.z->gD x.t (i+1)-gD x.t i<=Ig a.s*((gD x.ms (i+1)).pl-(gD x.ms i).pl)
 zb:∀g∈x.z,0<=g/\g+1<x.ms.length
 zs:x.z.Pairwise (· < ·)
 zn:a.b=false->x.z=[]
structure GoF(a:MkIQ)(K:Int)(x y:MS):Prop where
 ms:y.ms=x.ms
 t:y.t=x.t
 st:y.st=x.st
 far:1<=y.pl-x.pl/\y.pl-x.pl<=30
 lo:ZN a.s*(y.pl-x.pl)<=y.tm-x.tm
 up:0<=y.tm-x.tm/\y.tm-x.tm<=1000
 z:(y.z=x.z/\y.tm-x.tm<=Ig a.s*(y.pl-x.pl))∨(a.b=true/\y.z=x.z ++ [(x.ms.length:Int)-1])
 s:StmBQ (K+4) y.s
theorem goFQ{a:MkIQ}(hd:HdB a){K:Int}{x:MS}(hs:StmBQ K x.s)(hK:K<=1000)(h1:0<x.ms.length)(h2:x.ms.length<=100)(hp:0<=x.pl/\x.pl<=10000)(ht:0<=x.tm/\x.tm<=100000):GoF a K x (goM a x):=by
 rw[go_1 h1]
 have s1:=SA hs (by omega) 1 30
 have v1:1<=Ku x/\Ku x<=30:=yE hs (by omega) (by omega) (by omega) (by omega)
 have m1:=BLO (a:=ZN a.s) (b:=Ku x) (A:=12) (B:=30) (by have:=hd.lo;omega) hd.lo.2 (by omega) v1.2
 have m2:=BLO (a:=Ig a.s) (b:=Ku x) (A:=17) (B:=30) (by have:=hd.lo;have:=hd.hi;omega) hd.hi.2 (by omega) v1.2
 have m3:ZN a.s*Ku x<=Ig a.s*Ku x:=Int.mul_le_mul_of_nonneg_right hd.hi.1 (by omega)
 have e1:MQ (ZN a.s*Ku x)=ZN a.s*Ku x:=JC (by omega) (by omega)
 have e2:MQ (Ig a.s*Ku x)=Ig a.s*Ku x:=JC (by omega) (by omega)
 have s2:=SA s1 (by omega) (ZN a.s*Ku x) (Ig a.s*Ku x)
 have v2:=yE s1 (by omega) (lo:=ZN a.s*Ku x) (hi:=Ig a.s*Ku x) (by omega) m3 (by omega)
 have e3:MQ (x.pl+Ku x)=x.pl+Ku x:=JC (by omega) (by omega)
 have e4:MQ (x.tm+Js (Ad x.s 1 30) (ZN a.s*Ku x) (Ig a.s*Ku x))=x.tm+Js (Ad x.s 1 30) (ZN a.s*Ku x) (Ig a.s*Ku x):=JC (by omega) (by omega)
 have ea:advA a x=⟨Ad (Ad x.s 1 30) (ZN a.s*Ku x) (Ig a.s*Ku x),x.pl+Ku x,x.tm+Js (Ad x.s 1 30) (ZN a.s*Ku x) (Ig a.s*Ku x),x.ms,x.t,x.st,x.z⟩:=by
  unfold advA;rw[e1,e2,e3,e4]
 rw[ea]
 generalize Js (Ad x.s 1 30) (ZN a.s*Ku x) (Ig a.s*Ku x)=V at *
 generalize Ad (Ad x.s 1 30) (ZN a.s*Ku x) (Ig a.s*Ku x)=S at *
 generalize Ku x=F at *
 have q1:x.pl+F-x.pl=F:=by omega
 have q2:x.tm+V-x.tm=V:=by omega
 unfold advZ
 cases hb:a.b with
 |false=>
  refine⟨rfl,rfl,rfl,?_,?_,?_,.inl ⟨rfl,?_⟩,s2.mono (by omega)⟩
  ·show 1<=x.pl+F-x.pl/\x.pl+F-x.pl<=30;omega
  ·show ZN a.s*(x.pl+F-x.pl)<=x.tm+V-x.tm;rw[q1,q2];exact v2.1
  ·show 0<=x.tm+V-x.tm/\x.tm+V-x.tm<=1000;omega
  ·show x.tm+V-x.tm<=Ig a.s*(x.pl+F-x.pl);rw[q1,q2];exact v2.2
 |true=>
  have s3:=s2.next (by omega) 5
  have s4:=s3.next (by omega) 400
  have v4:=WT s3 (by omega) 400
  have w4:=v4.2 (by omega)
  have e5:MQ (x.tm+V+BA (BQ S 5) 400)=x.tm+V+BA (BQ S 5) 400:=JC (by omega) (by omega)
  have e6:MQ ((x.ms.length:Int)-1)=(x.ms.length:Int)-1:=JC (by omega) (by omega)
  dsimp only
  rw[e5,e6]
  cases hc:(BA S 5==0) with
  |false=>
   refine⟨rfl,rfl,rfl,?_,?_,?_,.inl ⟨rfl,?_⟩,s3.mono (by omega)⟩
   ·show 1<=x.pl+F-x.pl/\x.pl+F-x.pl<=30;omega
   ·show ZN a.s*(x.pl+F-x.pl)<=x.tm+V-x.tm;rw[q1,q2];exact v2.1
   ·show 0<=x.tm+V-x.tm/\x.tm+V-x.tm<=1000;omega
   ·show x.tm+V-x.tm<=Ig a.s*(x.pl+F-x.pl);rw[q1,q2];exact v2.2
  |true=>
   refine⟨rfl,rfl,rfl,?_,?_,?_,.inr ⟨hb,rfl⟩,s4.mono (by omega)⟩
   ·show 1<=x.pl+F-x.pl/\x.pl+F-x.pl<=30;omega
   ·show ZN a.s*(x.pl+F-x.pl)<=x.tm+V+BA (BQ S 5) 400-x.tm;rw[q1];omega
   ·show 0<=x.tm+V+BA (BQ S 5) 400-x.tm/\x.tm+V+BA (BQ S 5) 400-x.tm<=1000;omega
theorem addF{a:MkIQ}(hd:HdB a){K:Int}{y:MS}(hs:StmBQ K y.s)(hK:K<=1000):∃h v s,addM a y=⟨s,y.pl,y.tm,y.ms ++ [⟨y.pl,h⟩],y.t ++ [y.tm],y.st ++ [v],y.z⟩/\(0<=h/\h<=59)/\(Lx a.s+Ge a.s*h-Ch a.s<=v/\v<=Lx a.s+Ge a.s*h+Ch a.s)/\StmBQ (K+2) s:=by
 have s1:=hs.next (by omega) 60
 have v1:=WT hs (by omega) 60
 have w1:=v1.2 (by omega)
 have m:=BLO (a:=Ge a.s) (b:=BA y.s 60) (A:=11) (B:=59) hd.sc.1 hd.sc.2 v1.1 (by omega)
 have e1:MQ (Ge a.s*BA y.s 60)=Ge a.s*BA y.s 60:=JC (by omega) (by omega)
 have d1:=hd.bs
 have d2:=hd.of
 have e2:yAt a y=Lx a.s+Ge a.s*BA y.s 60:=by unfold yAt;rw[e1];exact JC (by omega) (by omega)
 have e3:MQ (yAt a y-Ch a.s)=yAt a y-Ch a.s:=JC (by omega) (by omega)
 have e4:MQ (yAt a y+Ch a.s)=yAt a y+Ch a.s:=JC (by omega) (by omega)
 refine⟨BA y.s 60,Js (BQ y.s 60) (MQ (yAt a y-Ch a.s)) (MQ (yAt a y+Ch a.s)),Ad (BQ y.s 60) (MQ (yAt a y-Ch a.s)) (MQ (yAt a y+Ch a.s)),rfl,⟨v1.1,by omega⟩,?_,(SA s1 (by omega) _ _).mono (by omega)⟩
 rw[e3,e4]
 have:=yE s1 (by omega) (lo:=yAt a y-Ch a.s) (hi:=yAt a y+Ch a.s) (by omega) (by omega) (by omega)
 rw[<-e2];exact this
theorem MdI.add{a:MkIQ}{x y:MS}(hx:MdI a x)(e1:y.ms=x.ms)(e2:y.t=x.t)(e3:y.st=x.st)(hp:0<=y.pl/\y.pl<=30*(x.ms.length:Int))(ht:0<=y.tm/\y.tm<=299+1000*(x.ms.length:Int))
  (hg:∀i,i+1=x.ms.length->(1<=y.pl-(gD x.ms i).pl/\y.pl-(gD x.ms i).pl<=30)/\ZN a.s*(y.pl-(gD x.ms i).pl)<=y.tm-gD x.t i/\(¬ (i:Int)∈y.z->y.tm-gD x.t i<=Ig a.s*(y.pl-(gD x.ms i).pl)))
  (hz:y.z=x.z∨(a.b=true/\0<x.ms.length/\y.z=x.z ++ [(x.ms.length:Int)-1])) {h v:Int} {s:StmQ} (h1:0<=h/\h<=59) (h2:Lx a.s+Ge a.s*h-Ch a.s<=v/\v<=Lx a.s+Ge a.s*h+Ch a.s):MdI a ⟨s,y.pl,y.tm,y.ms ++ [⟨y.pl,h⟩],y.t ++ [y.tm],y.st ++ [v],y.z⟩:=by
 rw[e1,e2,e3]
 have tl:=hx.tl
 have sl:=hx.sl
 have lm:(x.ms ++ [(⟨y.pl,h⟩:Mk)]).length=x.ms.length+1:=by simp
 refine⟨?_,?_,?_,?_,?_,?_,?_,?_,?_,?_,?_,?_,?_,?_⟩
 ·show (x.t ++ [y.tm]).length=(x.ms ++ [(⟨y.pl,h⟩:Mk)]).length;simp[tl]
 ·show (x.st ++ [v]).length=(x.ms ++ [(⟨y.pl,h⟩:Mk)]).length;simp[sl]
 ·intro h0;have h0:(x.ms ++ [(⟨y.pl,h⟩:Mk)]).length=0:=h0;rw[lm] at h0;omega
 ·intro _
  show (gD (x.ms ++ [(⟨y.pl,h⟩:Mk)]) ((x.ms ++ [(⟨y.pl,h⟩:Mk)]).length-1)).pl=y.pl/\gD (x.t ++ [y.tm]) ((x.ms ++ [(⟨y.pl,h⟩:Mk)]).length-1)=y.tm
  rw[lm,qT x.ms _ (by omega),qT x.t _ (by omega)];exact⟨rfl,rfl⟩
 ·intro i hi
  have hi:i<(x.ms ++ [(⟨y.pl,h⟩:Mk)]).length:=hi
  rw[lm] at hi
  show 0<=(gD (x.ms ++ [(⟨y.pl,h⟩:Mk)]) i).pl/\(gD (x.ms ++ [(⟨y.pl,h⟩:Mk)]) i).pl<=30*(i:Int)
  rcases Nat.lt_or_ge i x.ms.length with q | q
  ·rw[Xo x.ms _ q];exact hx.plb i q
  ·obtain rfl:i=x.ms.length:=by omega
   rw[qT x.ms _ rfl];exact hp
 ·intro i hi
  have hi:i<(x.ms ++ [(⟨y.pl,h⟩:Mk)]).length:=hi
  rw[lm] at hi
  show 0<=(gD (x.ms ++ [(⟨y.pl,h⟩:Mk)]) i).ht/\(gD (x.ms ++ [(⟨y.pl,h⟩:Mk)]) i).ht<=59
  rcases Nat.lt_or_ge i x.ms.length with q | q
  ·rw[Xo x.ms _ q];exact hx.ht i q
  ·rw[qT x.ms _ (by omega)];exact h1
 ·intro i hi
  have hi:i<(x.ms ++ [(⟨y.pl,h⟩:Mk)]).length:=hi
  rw[lm] at hi
  show 0<=gD (x.t ++ [y.tm]) i/\gD (x.t ++ [y.tm]) i<=299+1000*(i:Int)
  rcases Nat.lt_or_ge i x.ms.length with q | q
  ·rw[Xo x.t _ (by omega)];exact hx.tm i q
  ·obtain rfl:i=x.ms.length:=by omega
   rw[qT x.t _ (by omega)];exact ht
 ·intro i hi
  have hi:i<(x.ms ++ [(⟨y.pl,h⟩:Mk)]).length:=hi
  rw[lm] at hi
  show Lx a.s+Ge a.s*(gD (x.ms ++ [(⟨y.pl,h⟩:Mk)]) i).ht-Ch a.s<=gD (x.st ++ [v]) i/\gD (x.st ++ [v]) i<=Lx a.s+Ge a.s*(gD (x.ms ++ [(⟨y.pl,h⟩:Mk)]) i).ht+Ch a.s
  rcases Nat.lt_or_ge i x.ms.length with q | q
  ·rw[Xo x.ms _ q,Xo x.st _ (by omega)];exact hx.st i q
  ·rw[qT x.ms _ (by omega),qT x.st _ (by omega)];exact h2
 ·intro i hi
  have hi:i+1<(x.ms ++ [(⟨y.pl,h⟩:Mk)]).length:=hi
  rw[lm] at hi
  show 1<=(gD (x.ms ++ [(⟨y.pl,h⟩:Mk)]) (i+1)).pl-(gD (x.ms ++ [(⟨y.pl,h⟩:Mk)]) i).pl/\(gD (x.ms ++ [(⟨y.pl,h⟩:Mk)]) (i+1)).pl-(gD (x.ms ++ [(⟨y.pl,h⟩:Mk)]) i).pl<=30
  rw[Xo x.ms _ (show i<_ by omega)]
  rcases Nat.lt_or_ge (i+1) x.ms.length with q | q
  ·rw[Xo x.ms _ q];exact hx.far i q
  ·rw[qT x.ms _ (by omega)];exact (hg i (by omega)).1
 ·intro i hi
  have hi:i+1<(x.ms ++ [(⟨y.pl,h⟩:Mk)]).length:=hi
  rw[lm] at hi
  show ZN a.s*((gD (x.ms ++ [(⟨y.pl,h⟩:Mk)]) (i+1)).pl-(gD (x.ms ++ [(⟨y.pl,h⟩:Mk)]) i).pl)<=gD (x.t ++ [y.tm]) (i+1)-gD (x.t ++ [y.tm]) i
  rw[Xo x.ms _ (show i<_ by omega),Xo x.t _ (show i<_ by omega)]
  rcases Nat.lt_or_ge (i+1) x.ms.length with q | q
  ·rw[Xo x.ms _ q,Xo x.t _ (by omega)];exact hx.lo i q
  ·rw[qT x.ms _ (by omega),qT x.t _ (by omega)];exact (hg i (by omega)).2.1
 ·intro i hi hn
  have hi:i+1<(x.ms ++ [(⟨y.pl,h⟩:Mk)]).length:=hi
  rw[lm] at hi
  have hn:¬ (i:Int)∈y.z:=hn
  show gD (x.t ++ [y.tm]) (i+1)-gD (x.t ++ [y.tm]) i<=Ig a.s*((gD (x.ms ++ [(⟨y.pl,h⟩:Mk)]) (i+1)).pl-(gD (x.ms ++ [(⟨y.pl,h⟩:Mk)]) i).pl)
  rw[Xo x.ms _ (show i<_ by omega),Xo x.t _ (show i<_ by omega)]
  rcases Nat.lt_or_ge (i+1) x.ms.length with q | q
  ·rw[Xo x.ms _ q,Xo x.t _ (by omega)]
   refine hx.hi i q λhm=>hn ?_
   rcases hz with hz | ⟨_,_,hz⟩<;>rw[hz]
   ·exact hm
   ·exact List.mem_append_left _ hm
  ·rw[qT x.ms _ (by omega),qT x.t _ (by omega)];exact (hg i (by omega)).2.2 hn
 ·intro g hm
  have hm:g∈y.z:=hm
  show 0<=g/\g+1<((x.ms ++ [(⟨y.pl,h⟩:Mk)]).length:Int)
  rw[lm]
  rcases hz with hz | ⟨_,hl,hz⟩<;>rw[hz] at hm
  ·have:=hx.zb g hm;omega
  ·rcases List.mem_append.1 hm with hm | hm
   ·have:=hx.zb g hm;omega
   ·have:=List.mem_singleton.1 hm;omega
 ·show y.z.Pairwise (· < ·)
  rcases hz with hz | ⟨_,hl,hz⟩<;>rw[hz]
  ·exact hx.zs
  ·rw[List.pairwise_append]
   refine⟨hx.zs,List.pairwise_singleton _ _,λg hg k hk=>?_⟩
   have:=hx.zb g hg
   have:=List.mem_singleton.1 hk
   omega
 ·intro hb
  show y.z=[]
  rcases hz with hz | ⟨hb2,_,_⟩
  ·rw[hz];exact hx.zn hb
  ·rw[hb] at hb2;cases hb2
theorem MdI.step{a:MkIQ}(hd:HdB a){K:Int}{x:MS}(hx:MdI a x)(hs:StmBQ K x.s)(hK:K<=900)(hl:x.ms.length<=50):MdI a (stpC a x)/\StmBQ (K+6) (stpC a x).s/\(stpC a x).ms.length=x.ms.length+1:=by
 rcases Nat.eq_zero_or_pos x.ms.length with h0 | h0
 ·have eg:goM a x=x:=go_0 (List.length_eq_zero_iff.1 h0)
  obtain⟨h,v,s,e,q1,q2,q3⟩:=addF hd hs (by omega)
  have e:stpC a x=_:=(show stpC a x=addM a x by unfold stpC;rw[eg]).trans e
  obtain⟨z1,z2,z3⟩:=hx.zero h0
  rw[e]
  exact⟨hx.add rfl rfl rfl (by rw[h0];omega) (by rw[h0];omega) (λi hi=>by omega) (.inl rfl) q1 q2,q3.mono (by omega),by show (x.ms ++ [_]).length=_;simp⟩
 ·obtain⟨l1,l2⟩:=hx.last h0
  have p1:=hx.plb (x.ms.length-1) (by omega)
  have t1:=hx.tm (x.ms.length-1) (by omega)
  have gf:=goFQ hd hs (by omega) h0 (by omega) (by rw[<-l1];omega) (by rw[<-l2];omega)
  obtain⟨h,v,s,e,q1,q2,q3⟩:=addF hd gf.s (by omega)
  have e:stpC a x=_:=e
  rw[e]
  have f1:=gf.far
  have f2:=gf.up
  refine⟨hx.add gf.ms gf.t gf.st (by omega) (by omega) (λi hi=>?_) ?_ q1 q2,q3.mono (by omega),by show ((goM a x).ms ++ [_]).length=_;rw[gf.ms];simp⟩
  ·obtain rfl:i=x.ms.length-1:=by omega
   rw[l1,l2]
   refine⟨gf.far,gf.lo,λhn=>?_⟩
   rcases gf.z with⟨_,z⟩ | ⟨_,z⟩
   ·exact z
   ·exact absurd (by rw[z];exact List.mem_append_right _ (List.mem_singleton.2 (by omega))) hn
  ·rcases gf.z with⟨z,_⟩ | ⟨b,z⟩
   ·exact .inl z
   ·exact .inr ⟨b,h0,z⟩
theorem MdI.all{a:MkIQ}(hd:HdB a):∀(n:Nat) {K:Int} {x:MS},MdI a x->StmBQ K x.s->x.ms.length+n<=50->K+6*n<=800->MdI a (D6 a n x)/\StmBQ (K+6*n) (D6 a n x).s/\(D6 a n x).ms.length=x.ms.length+n
 |0,K,x,hx,hs,_,_=>⟨hx,hs.mono (by omega),rfl⟩
 |n+1,K,x,hx,hs,hl,hK=>by
  obtain⟨a1,a2,a3⟩:=hx.step hd hs (by omega) (by omega)
  obtain⟨b1,b2,b3⟩:=MdI.all hd n a1 a2 (by omega) (by omega)
  exact⟨b1,b2.mono (by omega),by show (D6 a n (stpC a x)).ms.length=_;omega⟩
theorem MdI.nil{a:MkIQ}{s:StmQ}{tm:Int}(h:0<=tm/\tm<=299):MdI a ⟨s,0,tm,[],[],[],[]⟩:=
 ⟨rfl,rfl,λ_=>⟨rfl,h,rfl⟩,λh=>absurd h (Nat.lt_irrefl 0),λi h=>absurd h (Nat.not_lt_zero i),λi h=>absurd h (Nat.not_lt_zero i),λi h=>absurd h (Nat.not_lt_zero i),λi h=>absurd h (Nat.not_lt_zero i),λi h=>absurd h (Nat.not_lt_zero _),λi h=>absurd h (Nat.not_lt_zero _),λi h=>absurd h (Nat.not_lt_zero _),λg h=>(by cases h),.nil,λ_=>rfl⟩
theorem CLO{a:MkIQ}(h:AJS a):MdI a (mS a)/\StmBQ 100 (mS a).s/\(mS a).ms.length=mN a:=by
 have hd:=hdB h
 obtain⟨n1,n2,n3⟩:=DAO h
 obtain⟨_,_,_,_,_,b6⟩:=BZP h
 have m2:=h.2.2
 have s7:=SA b6 (by omega) 1 a.m
 have i0:MdI a ⟨Ad (gS6 a.s) 1 a.m,0,hTm a.s,[],[],[],[]⟩:=MdI.nil hd.tm
 have i0:MdI a (mS0 a):=i0
 have l0:(mS0 a).ms.length+mN a<=50:=by show 0+mN a<=50;omega
 have s0:StmBQ 7 (mS0 a).s:=s7.mono (by omega)
 obtain⟨c1,c2,c3⟩:=MdI.all hd (mN a) i0 s0 l0 (by omega)
 have e:mS a=D6 a (mN a) (mS0 a):=rfl
 rw[e]
 generalize D6 a (mN a) (mS0 a)=M at *
 refine⟨c1,c2.mono (by omega),c3.trans ?_⟩
 show 0+mN a=mN a;omega
def nOk(a:MkIQ)(n:Nt):Prop:=∃j:Nat,n.mi=j/\j<(mS a).ms.length/\n.t.has (gD (mS a).t j)/\(0<=n.t.lo/\n.t.hi<=100000)/\n.s.has (gD (mS a).st j) /\ -10000<=n.s.lo/\n.s.hi<=10000
structure NtJ(a:MkIQ)(l:List Nt):Prop where
 all:∀n∈l,nOk a n
 one:∀i j,i<l.length->j<l.length->i≠j->(gD l i).mi≠(gD l j).mi
theorem DFR{a:MkIQ}(hm:MdI a (mS a))(hd:HdB a){K:Int}{s:StmQ}(hs:StmBQ K s)(hK:K<=1000){i:Nat}(hi:i<(mS a).ms.length)(hl:(mS a).ms.length<=50):nOk a (mkNt a s i)/\StmBQ (K+4) (nS5 s):=by
 have s2:=hs.next (by omega) 40
 have s3:=s2.next (by omega) 40
 have s4:=s3.next (by omega) 9
 have s5:=s4.next (by omega) 9
 have v1:=WT hs (by omega) 40
 have v2:=WT s2 (by omega) 40
 have v3:=WT s3 (by omega) 9
 have v4:=WT s4 (by omega) 9
 have w1:=v1.2 (by omega)
 have w2:=v2.2 (by omega)
 have w3:=v3.2 (by omega)
 have w4:=v4.2 (by omega)
 have t1:=hm.tm i hi
 have h1:=hm.ht i hi
 have st:=hm.st i hi
 have m:=BLO (a:=Ge a.s) (b:=(gD (mS a).ms i).ht) (A:=11) (B:=59) hd.sc.1 hd.sc.2 h1.1 h1.2
 have d1:=hd.bs
 have d2:=hd.of
 have e1:MQ (gD (mS a).t i-BA s 40)=gD (mS a).t i-BA s 40:=JC (by omega) (by omega)
 have e2:MQ (gD (mS a).t i+BA (nS2 s) 40)=gD (mS a).t i+BA (nS2 s) 40:=JC (by unfold nS2;omega) (by unfold nS2;omega)
 have e3:MQ (gD (mS a).st i-BA (nS3 s) 9)=gD (mS a).st i-BA (nS3 s) 9:=JC (by unfold nS3 nS2;omega) (by unfold nS3 nS2;omega)
 have e4:MQ (gD (mS a).st i+BA (nS4 s) 9)=gD (mS a).st i+BA (nS4 s) 9:=JC (by unfold nS4 nS3 nS2;omega) (by unfold nS4 nS3 nS2;omega)
 refine⟨?_,s5.mono (by omega)⟩
 unfold mkNt
 rw[e1,e2,e3,e4]
 have w2':0<=BA (nS2 s) 40/\BA (nS2 s) 40<40:=⟨v2.1,w2⟩
 have w3':0<=BA (nS3 s) 9/\BA (nS3 s) 9<9:=⟨v3.1,w3⟩
 have w4':0<=BA (nS4 s) 9/\BA (nS4 s) 9<9:=⟨v4.1,w4⟩
 have mx:=BNM 0 (gD (mS a).t i-BA s 40)
 have mx2:OL 0 (gD (mS a).t i-BA s 40)<=gD (mS a).t i:=BNS.2 (by omega)
 refine⟨i,rfl,hi,⟨mx2,?_⟩,⟨mx.1,?_⟩,⟨?_,?_⟩,?_,?_⟩
 ·show gD (mS a).t i<=gD (mS a).t i+BA (nS2 s) 40;omega
 ·show gD (mS a).t i+BA (nS2 s) 40<=100000;omega
 ·show gD (mS a).st i-BA (nS3 s) 9<=gD (mS a).st i;omega
 ·show gD (mS a).st i<=gD (mS a).st i+BA (nS4 s) 9;omega
 ·show -10000<=gD (mS a).st i-BA (nS3 s) 9;omega
 ·show gD (mS a).st i+BA (nS4 s) 9<=10000;omega
theorem CKF{a:MkIQ}(hm:MdI a (mS a))(hd:HdB a)(hl:(mS a).ms.length<=50):∀(n i:Nat) {K:Int} {x:NSt},i+n=(mS a).ms.length->StmBQ K x.s->K+5*n<=900->NtJ a x.ns->(∀t∈x.ns,t.mi<i)->x.ns.length<=i->NtJ a (mkN a n i x).ns/\StmBQ (K+5*n) (mkN a n i x).s/\(mkN a n i x).ns.length<=i+n
 |0,i,K,x,_,hs,_,hN,_,h5=>⟨hN,hs.mono (by omega),h5⟩
 |n+1,i,K,x,hi,hs,hK,hN,h4,h5=>by
  have s1:=hs.next (by omega) 2
  show NtJ a (mkN a n (i+1) (stpN a i x)).ns/\StmBQ _ (mkN a n (i+1) (stpN a i x)).s/\(mkN a n (i+1) (stpN a i x)).ns.length<=_
  unfold stpN
  cases BA x.s 2==0 with
  |false=>
   obtain⟨r1,r2,r3⟩:=CKF hm hd hl n (i+1) (x:=⟨BQ x.s 2,x.ns⟩) (by omega) s1 (by omega) hN (λt ht=>by have:=h4 t ht;omega) (by show x.ns.length<=_;omega)
   exact⟨r1,r2.mono (by omega),by show (mkN a n (i+1) ⟨BQ x.s 2,x.ns⟩).ns.length<=_;omega⟩
  |true=>
   obtain⟨k1,k2⟩:=DFR hm hd s1 (by omega) (i:=i) (by omega) hl
   have hN2:NtJ a (x.ns ++ [mkNt a (BQ x.s 2) i]):=by
    refine⟨λt ht=>?_,λj k hj hk hjk=>?_⟩
    ·rcases List.mem_append.1 ht with ht | ht
     ·exact hN.all t ht
     ·rw[List.mem_singleton.1 ht];exact k1
    ·rw[List.length_append] at hj hk
     have hj:j<x.ns.length+1:=hj
     have hk:k<x.ns.length+1:=hk
     have em:(mkNt a (BQ x.s 2) i).mi=i:=rfl
     rcases Nat.lt_or_ge j x.ns.length with q | q<;>rcases Nat.lt_or_ge k x.ns.length with r | r
     ·rw[Xo _ _ q,Xo _ _ r];exact hN.one j k q r hjk
     ·rw[Xo _ _ q,qT _ _ (by omega),em]
      have:=h4 _ (HI q);omega
     ·rw[qT _ _ (by omega),Xo _ _ r,em]
      have:=h4 _ (HI r);omega
     ·omega
   obtain⟨r1,r2,r3⟩:=CKF hm hd hl n (i+1) (x:=⟨nS5 (BQ x.s 2),x.ns ++ [mkNt a (BQ x.s 2) i]⟩) (by omega) k2 (by omega) hN2 (λt ht=>by
    rcases List.mem_append.1 ht with ht | ht
    ·have:=h4 t ht;omega
    ·rw[List.mem_singleton.1 ht];show (i:Int)<((i+1:Nat):Int);omega) (by show (x.ns ++ [_]).length<=_;rw[List.length_append];show x.ns.length+1<=i+1;omega)
   exact⟨r1,r2.mono (by omega),by show (mkN a n (i+1) ⟨nS5 (BQ x.s 2),x.ns ++ [mkNt a (BQ x.s 2) i]⟩).ns.length<=_;omega⟩
theorem DQY{a:MkIQ}{l:List Nt}{i k:Nat}(hi:i<l.length)(hk:k<l.length)(h:NtJ a l):NtJ a (swN l i k):=by
 have hat:=λt=>CUM (l:=l) hi hk (t:=t)
 refine⟨λn hn=>?_,λu v hu hv huv=>?_⟩
 ·obtain⟨t,ht,rfl⟩:=aQ hn
  rw[sS] at ht
  rw[hat t]
  cases decide (t=k) with
  |true=>exact h.all _ (HI hi)
  |false=>
   cases decide (t=i) with
   |true=>exact h.all _ (HI hk)
   |false=>exact h.all _ (HI ht)
 ·rw[sS] at hu hv
  rw[hat u,hat v]
  by_cases u1:u=k
  ·subst u1
   have v1:¬ v=u:=λe=>huv e.symm
   rw[decide_eq_true rfl,decide_eq_false v1]
   show (gD l i).mi≠(bif decide (v=i) then gD l u else gD l v).mi
   by_cases v2:v=i
   ·rw[decide_eq_true v2];exact h.one i u hi hu (by omega)
   ·rw[decide_eq_false v2];exact h.one i v hi hv (by omega)
  ·rw[decide_eq_false u1]
   by_cases v1:v=k
   ·subst v1
    rw[decide_eq_true rfl]
    show (bif decide (u=i) then gD l v else gD l u).mi≠(gD l i).mi
    by_cases u2:u=i
    ·rw[decide_eq_true u2];exact h.one v i hv hi (by omega)
    ·rw[decide_eq_false u2];exact h.one u i hu hi (by omega)
   ·rw[decide_eq_false v1]
    show (bif decide (u=i) then gD l k else gD l u).mi≠(bif decide (v=i) then gD l k else gD l v).mi
    by_cases u2:u=i
    ·have v2:¬ v=i:=by omega
     rw[decide_eq_true u2,decide_eq_false v2];exact h.one k v hk hv (by omega)
    ·rw[decide_eq_false u2]
     by_cases v2:v=i
     ·rw[decide_eq_true v2];exact h.one u k hu hk (by omega)
     ·rw[decide_eq_false v2];exact h.one u v hu hv huv
theorem DDN{a:MkIQ}:∀(j:Nat) {K:Int} {x:NSt},(0<j->j<x.ns.length)->StmBQ K x.s->K+j<=2000->NtJ a x.ns->NtJ a (shK j x).ns/\(shK j x).ns.length=x.ns.length
 |0,K,x,_,_,_,h=>⟨h,rfl⟩
 |j+1,K,x,hj,hs,hK,h=>by
  have hj:=hj (Nat.succ_pos _)
  have v:=WT hs (by omega) ((j:Int)+2)
  have w:=v.2 (by omega)
  have s1:=hs.next (by omega) ((j:Int)+2)
  obtain⟨r1,r2⟩:=DDN j (x:=⟨BQ x.s ((j:Int)+2),swN x.ns (j+1) (BA x.s ((j:Int)+2)).toNat⟩) (λ_=>by show j<(swN _ _ _).length;rw[sS];omega) s1 (by omega) (DQY hj (by omega) h)
  exact⟨r1,r2.trans (sS _ _ _)⟩
structure MadeF(a:MkIQ):Prop where
 ok:ChOk (ZP a)
 len:(1<=(ZP a).ms.length/\((ZP a).ms.length:Int)<=a.m)/\(jV a).t.length=(ZP a).ms.length/\(jV a).s.length=(ZP a).ms.length/\(ZP a).ns.length<=(ZP a).ms.length
 bd:(-50<=(ZP a).base/\(ZP a).base<=400)/\(0<=(ZP a).scale/\(ZP a).scale<=11)/\(0<=(ZP a).off/\(ZP a).off<=8)/\(1<=(ZP a).p.lo/\(ZP a).p.hi<=17)
 tr:∀sp:Nat->Bool,(∀g:Nat,(g:Int)∈(jV a).z->sp g=true)->TrC (ZP a) sp (gD (jV a).t)
 st:∀i,i<(ZP a).ms.length->(xT (ZP a) i).has (gD (jV a).s i)
 tb:∀i,i<(ZP a).ms.length->0<=gD (jV a).t i/\gD (jV a).t i<=20000
 sb:∀i,i<(ZP a).ms.length -> -10000<=gD (jV a).s i/\gD (jV a).s i<=10000
 z:okZ ⟨ZP a,(jV a).z⟩=true
 zn:a.b=false->(jV a).z=[]
 nt:∀n∈(ZP a).ns,nOk a n
 up:∀i,i+1<(ZP a).ms.length->gD (jV a).t i<gD (jV a).t (i+1)
theorem DVG{a:MkIQ}(h:AJS a):MadeF a:=by
 have hd:=hdB h
 obtain⟨hm,hs,hl⟩:=CLO h
 obtain⟨n1,n2,n3⟩:=DAO h
 have m2:=h.2.2
 have hN0:NtJ a ([]:List Nt):=⟨λn h=>(by cases h),λi j h=>absurd h (Nat.not_lt_zero _)⟩
 obtain⟨k1,k2,k3⟩:=CKF hm hd (by omega) (mS a).ms.length 0 (x:=⟨(mS a).s,[]⟩) (by omega) hs (by omega) hN0 (λt h=>(by cases h)) (Nat.le_refl _)
 have k1:NtJ a (Ua a).ns:=k1
 have k2:StmBQ (100+5*((mS a).ms.length:Int)) (Ua a).s:=k2
 have k3:(Ua a).ns.length<=0+(mS a).ms.length:=k3
 obtain⟨e1,e2⟩:=DDN (a:=a) ((Ua a).ns.length-1) (x:=Ua a) (by omega) k2 (by omega) k1
 have e1:NtJ a (mE a).ns:=e1
 have e2:(mE a).ns.length=(Ua a).ns.length:=e2
 have ok:ChOk (ZP a):=by
  have d1:=hd.lo
  have d2:=hd.hi
  have d3:=hd.bs
  have d4:=hd.sc
  have d5:=hd.of
  refine⟨by show 1<=(mS a).ms.length/\(mS a).ms.length<=40;omega,by show (mE a).ns.length<=20;omega,by show 1<=ZN a.s/\ZN a.s<=Ig a.s/\Ig a.s<=600;omega,by show -1000000<=Lx a.s/\Lx a.s<=1000000;omega,by show 0<=Ge a.s/\Ge a.s<=1000;omega,by show 0<=Ch a.s/\Ch a.s<=1000;omega,λi hi=>?_,λi hi=>?_,λn hn=>?_,λi j hij hj=>e1.one i j (Nat.lt_trans hij hj) hj (by omega)⟩
  ·have hi:i<(mS a).ms.length:=hi
   have p:=hm.plb i hi
   have q:=hm.ht i hi
   show (0<=(gD (mS a).ms i).pl/\(gD (mS a).ms i).pl<=10000)/\0<=(gD (mS a).ms i).ht/\(gD (mS a).ms i).ht<=1000
   omega
  ·have p:=hm.far i hi
   show (gD (mS a).ms i).pl<(gD (mS a).ms (i+1)).pl
   omega
  ·obtain⟨j,j1,j2,⟨j3,j4⟩,⟨j5,j6⟩,⟨j7,j8⟩,j9,j10⟩:=e1.all n hn
   have q:(ZP a).ms.length=(mS a).ms.length:=rfl
   exact⟨by rw[q];omega,by omega,by omega⟩
 have no:∀i:Nat,i<(mS a).ms.length->hasN (ZP a).ns (i:Int)=true->(ntOf (ZP a).ns (i:Int)).t.has (gD (mS a).t i)/\(ntOf (ZP a).ns (i:Int)).s.has (gD (mS a).st i):=λi hi hh=>by
  obtain⟨q1,q2⟩:=BBE hh
  obtain⟨j,j1,j2,j3,_,j5,_⟩:=e1.all _ q1
  rw[q2] at j1
  obtain rfl:i=j:=by omega
  exact⟨j3,j5⟩
 have sb:∀i,i<(mS a).ms.length -> -10000<=gD (mS a).st i/\gD (mS a).st i<=10000:=λi hi=>by
  have h1:=hm.ht i hi
  have st:=hm.st i hi
  have m:=BLO (a:=Ge a.s) (b:=(gD (mS a).ms i).ht) (A:=11) (B:=59) hd.sc.1 hd.sc.2 h1.1 h1.2
  have d1:=hd.bs
  have d2:=hd.of
  omega
 refine⟨ok,⟨by show 1<=(mS a).ms.length/\((mS a).ms.length:Int)<=a.m;omega,hm.tl,hm.sl,by show (mE a).ns.length<=(mS a).ms.length;omega⟩,⟨hd.bs,hd.sc,hd.of,hd.lo.1,hd.hi.2⟩,λsp hsp=>⟨λi hi=>?_,λg hg=>?_⟩,λi hi=>?_,λi hi=>?_,sb,?_,hm.zn,e1.all,λi hi=>?_⟩
 ·have hi:i<(mS a).ms.length:=by have:(ZP a).ms.length=(mS a).ms.length:=rfl;omega
  have t:=hm.tm i hi
  show (notM (ZP a) (i:Int)).has (gD (mS a).t i)
  unfold notM
  cases hh:hasN (ZP a).ns (i:Int) with
  |false=>show -100000000<=gD (mS a).t i/\gD (mS a).t i<=100000000;omega
  |true=>exact (no i hi hh).1
 ·have hg:g+1<(mS a).ms.length:=by have:(ZP a).ms.length=(mS a).ms.length:=rfl;omega
  refine⟨hm.lo g hg,?_⟩
  show gD (mS a).t (g+1)-gD (mS a).t g<=bif sp g then 200000000 else Ig a.s*((gD (mS a).ms (g+1)).pl-(gD (mS a).ms g).pl)
  have t1:=hm.tm g (by omega)
  have t2:=hm.tm (g+1) hg
  cases hp:sp g with
  |true=>show _<=(200000000:Int);omega
  |false=>exact hm.hi g hg λhz=>by rw[hsp g hz] at hp;cases hp
 ·have hi:i<(mS a).ms.length:=hi
  have h1:=hm.ht i hi
  have st:=hm.st i hi
  have m:=BLO (a:=Ge a.s) (b:=(gD (mS a).ms i).ht) (A:=11) (B:=59) hd.sc.1 hd.sc.2 h1.1 h1.2
  have d1:=hd.bs
  have d2:=hd.of
  have x1:MQ (Ge a.s*(gD (mS a).ms i).ht)=Ge a.s*(gD (mS a).ms i).ht:=JC (by omega) (by omega)
  have x2:atMQ (ZP a) (i:Int)=Lx a.s+Ge a.s*(gD (mS a).ms i).ht:=by
   show MQ (Lx a.s+MQ (Ge a.s*(gD (mS a).ms i).ht))=_
   rw[x1];exact JC (by omega) (by omega)
  have x3:(st0 (ZP a) (i:Int)).has (gD (mS a).st i):=by
   show MQ (atMQ (ZP a) (i:Int)-Ch a.s)<=_/\_<=MQ (atMQ (ZP a) (i:Int)+Ch a.s)
   rw[x2]
   have y1:MQ (Lx a.s+Ge a.s*(gD (mS a).ms i).ht-Ch a.s)=Lx a.s+Ge a.s*(gD (mS a).ms i).ht-Ch a.s:=JC (by omega) (by omega)
   have y2:MQ (Lx a.s+Ge a.s*(gD (mS a).ms i).ht+Ch a.s)=Lx a.s+Ge a.s*(gD (mS a).ms i).ht+Ch a.s:=JC (by omega) (by omega)
   rw[y1,y2];exact st
  show (xT (ZP a) (i:Int)).has (gD (mS a).st i)
  unfold xT
  cases hh:hasN (ZP a).ns (i:Int) with
  |false=>exact x3
  |true=>exact qO.2 ⟨x3,(no i hi hh).2⟩
 ·have hi:i<(mS a).ms.length:=hi
  have t:=hm.tm i hi
  show 0<=gD (mS a).t i/\gD (mS a).t i<=20000
  omega
 ·exact (CPW (a:=⟨ZP a,(jV a).z⟩) ok.m).2 ⟨hm.zb,hm.zs⟩
 ·have hi:i+1<(mS a).ms.length:=hi
  have f:=hm.far i hi
  have l:=hm.lo i hi
  have p:1*1<=ZN a.s*((gD (mS a).ms (i+1)).pl-(gD (mS a).ms i).pl):=Int.mul_le_mul hd.lo.1 f.1 (by omega) (by have:=hd.lo;omega)
  show gD (mS a).t i<gD (mS a).t (i+1)
  omega
end Go.Bal
