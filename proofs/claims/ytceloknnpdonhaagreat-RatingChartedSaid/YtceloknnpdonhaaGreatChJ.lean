/- Package chart: the greatest stages from a time to another one. -/
import Derived.Test.YtceloknnpdonhaaGreatChI
import Derived.Test.YtceloknnpdonhaaGreatChD3
set_option linter.unusedVariables false
set_option linter.unusedSimpArgs false




namespace Go.Bal
open Go Go.Sym Go.Proofs
theorem BNM(a b:Int):a<=OL a b/\b<=OL a b:=by unfold OL;split<;>omega
theorem CCF(a b:Int):Ie a b<=a/\Ie a b<=b:=by unfold Ie;split<;>omega
def Yd(B:Int)(s:Span):Prop:=(-B<=s.lo/\s.lo<=B) /\ -B<=s.hi/\s.hi<=B
def gpOk(s:Nat->Span)(n:Nat):Prop:=∀g,g<n->(0<=(s g).lo/\(s g).lo<=200000000)/\0<=(s g).hi/\(s g).hi<=200000000
theorem CVH{l:List Span}{s:Nat->Span}{n:Nat}(hl:∀i,i<=n->Yd 1000000000 (gD l i))(hs:gpOk s n)(hn:n<40):∀i,i<=n->fwM l s i=fw (gD l) s i/\Yd (1000000000+200000000*i) (fw (gD l) s i)
 |0,_=>⟨rfl,by have:=hl 0 (Nat.zero_le _);show Yd _ (gD l 0);unfold Yd at *;omega⟩
 |g+1,h=>by
  obtain⟨e,hb⟩:=CVH hl hs hn g (by omega)
  have h1:=hl (g+1) h
  have h2:=hs g (by omega)
  have e2:addS (fw (gD l) s g) (s g)=⟨(fw (gD l) s g).lo+(s g).lo,(fw (gD l) s g).hi+(s g).hi⟩:=by
   unfold addS MQ Yd at *
   rw[JC (by omega) (by omega),JC (by omega) (by omega)]
  refine⟨by show com _ (addS (fwM l s g) (s g))=_;rw[e,e2];rfl,?_⟩
  show Yd _ (com _ _)
  unfold com
  generalize fw (gD l) s g=F at *
  generalize gD l (g+1)=L at *
  unfold Yd OL Ie at *
  simp only at *
  constructor
  ·split<;>omega
  ·split<;>omega
theorem DFF{f s:Nat->Span}{n:Nat}(hf:∀i,i<=n->Yd 10000000000 (f i))(hs:gpOk s n)(hn:n<40):∀j,j<=n->bkMQ f s n j=bk f s n j/\Yd (10000000000+200000000*j) (bk f s n j)
 |0,_=>⟨rfl,by have:=hf n (Nat.le_refl _);show Yd _ (f n);unfold Yd at *;omega⟩
 |j+1,h=>by
  obtain⟨e,hb⟩:=DFF hf hs hn j (by omega)
  have h1:=hf (n-(j+1)) (by omega)
  have h2:=hs (n-(j+1)) (by omega)
  have e2:subS (bk f s n j) (s (n-(j+1)))=⟨(bk f s n j).lo-(s (n-(j+1))).hi,(bk f s n j).hi-(s (n-(j+1))).lo⟩:=by
   unfold subS MQ Yd at *
   rw[JC (by omega) (by omega),JC (by omega) (by omega)]
  refine⟨by show com _ (subS (bkMQ f s n j) (s _))=_;rw[e,e2];rfl,?_⟩
  show Yd _ (com _ _)
  unfold com
  generalize bk f s n j=F at *
  generalize f (n-(j+1))=L at *
  unfold Yd OL Ie at *
  simp only at *
  constructor
  ·split<;>omega
  ·split<;>omega
theorem CNN{f g s:Nat->Span}{n:Nat}(h:∀i,i<=n->f i=g i):∀j,j<=n->bkMQ f s n j=bkMQ g s n j
 |0,_=>h n (Nat.le_refl _)
 |j+1,hj=>by
  show com _ _=com _ _
  rw[CNN h j (by omega),h _ (by omega)]
theorem CAJ{w:Dk}{l:List Span}(h1:1<=l.length)(h40:l.length<=40)(hl:∀i,i<l.length->Yd 1000000000 (gD l i))(hs:gpOk (Oh w) (l.length-1)){i:Nat}(hi:i<l.length):gD (dF w l) i=nar (gD l) (Oh w) (l.length-1) i:=by
 have hf:=CVH (l:=l) (s:=Oh w) (n:=l.length-1) (λi h=>hl i (by omega)) hs (by omega)
 unfold dF
 rw[OW _ _ _ hi,CNN (λi h=>(hf i h).1) _ (by omega)]
 refine (DFF (λi h=>?_) hs (by omega) _ (by omega)).1
 have:=(hf i h).2
 unfold Yd at *;omega
theorem BZQ{l:List Span}:l.all qF=true↔∀i,i<l.length->(gD l i).lo<=(gD l i).hi:=by
 rw[List.all_eq_true]
 constructor
 ·intro h i hi;exact of_decide_eq_true (h _ (HI hi))
 ·intro h x hx
  obtain⟨i,hi,rfl⟩:=aQ hx
  exact decide_eq_true (h i hi)
theorem CHW(w:Dk)(l:List Span):(dF w l).length=l.length:=rng_length _ _
theorem CUQ{w:Dk}{l:List Span}(h1:1<=l.length)(h40:l.length<=40)(hl:∀i,i<l.length->Yd 1000000000 (gD l i))(hs:gpOk (Oh w) (l.length-1))(hle:∀g,g<l.length-1->(Oh w g).lo<=(Oh w g).hi):(dF w l).all qF=true↔∃t,Tr (gD l) (Oh w) (l.length-1) t:=by
 rw[<-CGF hle,BZQ,CHW]
 constructor
 ·intro h i hi;rw[<-CAJ h1 h40 hl hs (by omega)];exact h i (by omega)
 ·intro h i hi;rw[CAJ h1 h40 hl hs hi];exact h i (by omega)
end Go.Bal

namespace Go.Bal
open Go Go.Sym Go.Proofs
structure NtOk(m:Int)(n:Nt):Prop where
 mi:0<=n.mi/\n.mi<m
 t:0<=n.t.lo/\n.t.lo<=n.t.hi/\n.t.hi<=10000000
 s:-3000000<=n.s.lo/\n.s.lo<=n.s.hi/\n.s.hi<=3000000
structure ChOk(c:Cht):Prop where
 m:1<=c.ms.length/\c.ms.length<=40
 n:c.ns.length<=20
 p:1<=c.p.lo/\c.p.lo<=c.p.hi/\c.p.hi<=600
 b:-1000000<=c.base/\c.base<=1000000
 sc:0<=c.scale/\c.scale<=1000
 of:0<=c.off/\c.off<=1000
 mks:∀i,i<c.ms.length->(0<=(gD c.ms i).pl/\(gD c.ms i).pl<=10000)/\0<=(gD c.ms i).ht/\(gD c.ms i).ht<=1000
 up:∀i,i+1<c.ms.length->(gD c.ms i).pl<(gD c.ms (i+1)).pl
 nt:∀n∈c.ns,NtOk c.ms.length n
 one:∀i j,i<j->j<c.ns.length->(gD c.ns i).mi≠(gD c.ns j).mi
theorem PX{a b c:Int}:XA a b c=true↔b<=a/\a<=c:=by unfold XA;simp
theorem eT{α:Type}[Inhabited α](a:α)(l:List α)(i:Nat):gD (a :: l) (i+1)=gD l i:=by simp[gD]
theorem mM{α:Type}[Inhabited α](a:α)(l:List α):gD (a :: l) 0=a:=by simp[gD]
theorem CCC:∀(l:List Mk) (a:Int),mkC a l=0↔(∀i,i<l.length->(0<=(gD l i).pl/\(gD l i).pl<=10000)/\0<=(gD l i).ht/\(gD l i).ht<=1000)/\(0<l.length->a<(gD l 0).pl)/\∀i,i+1<l.length->(gD l i).pl<(gD l (i+1)).pl
 |[],a=>⟨λ_=>⟨λi h=>absurd h (Nat.not_lt_zero _),λh=>absurd h (Nat.not_lt_zero _),λi h=>absurd h (Nat.not_lt_zero _)⟩,λ_=>rfl⟩
 |m :: r,a=>by
  have ih:=CCC r m.pl
  show (bif (bif !XA m.pl 0 10000 then true else !XA m.ht 0 1000) then (30:Int) else bif decide (m.pl<=a) then 9 else mkC m.pl r)=0↔_
  cases h1:XA m.pl 0 10000 with
  |false=>
   refine⟨λh=>(by cases h),λh=>?_⟩
   have:=h.1 0 (Nat.succ_pos _)
   rw[mM] at this
   rw[PX.2 this.1] at h1;cases h1
  |true=>
   cases h2:XA m.ht 0 1000 with
   |false=>
    refine⟨λh=>(by cases h),λh=>?_⟩
    have:=h.1 0 (Nat.succ_pos _)
    rw[mM] at this
    rw[PX.2 this.2] at h2;cases h2
   |true=>
    have i1:=PX.1 h1
    have i2:=PX.1 h2
    by_cases h3:m.pl<=a
    ·refine⟨λh=>(by rw[decide_eq_true h3] at h;cases h),λh=>?_⟩
     have:=h.2.1 (Nat.succ_pos _)
     rw[mM] at this;omega
    ·rw[decide_eq_false h3]
     refine⟨λh=>?_,λh=>ih.2 ⟨λi hi=>?_,λhr=>?_,λi hi=>?_⟩⟩
     ·obtain⟨a1,a2,a3⟩:=ih.1 h
      refine⟨λi hi=>?_,λ_=>by rw[mM];omega,λi hi=>?_⟩
      ·rcases i with _ | i
       ·rw[mM];exact⟨i1,i2⟩
       ·rw[eT];exact a1 i (by simpa using hi)
      ·rcases i with _ | i
       ·rw[mM,eT];exact a2 (by simpa using hi)
       ·rw[eT,eT];exact a3 i (by simpa using hi)
     ·have:=h.1 (i+1) (Nat.succ_lt_succ hi)
      rw[eT] at this;exact this
     ·have:=h.2.2 0 (by simpa using hr)
      rw[mM,eT] at this;exact this
     ·have:=h.2.2 (i+1) (by simpa using hi)
      rw[eT,eT] at this;exact this
theorem BQS{n:Nt}{m:Nat}(hm:m<=1000):Ak n m=true↔NtOk m n:=by
 unfold Ak eC MQ
 rw[JC (by omega) (by omega)]
 simp only[Bool.and_eq_true,PX]
 constructor
 ·rintro⟨⟨h1,h2⟩,h3⟩;exact⟨by omega,by omega,by omega⟩
 ·rintro⟨h1,h2,h3⟩;exact⟨⟨by omega,by omega⟩,by omega⟩
theorem CEZ{l:List Nt}{i:Nat}(hi:i<l.length):dupP l i=true↔∀j,j<i->(gD l j).mi≠(gD l i).mi:=by
 unfold dupP
 rw[Bool.not_eq_true',List.any_eq_false]
 constructor
 ·intro h j hj e
  have hm:gD l j∈l.take i:=by
   have:gD (l.take i) j=gD l j:=by simp[gD,List.getD_eq_getElem?_getD,List.getElem?_take,hj]
   rw[<-this];exact HI (by rw[List.length_take];omega)
  exact h _ hm (by simpa using e)
 ·intro h x hx
  obtain⟨j,hj,rfl⟩:=aQ hx
  have hj:j<i:=by rw[List.length_take] at hj;omega
  have:gD (l.take i) j=gD l j:=by simp[gD,List.getD_eq_getElem?_getD,List.getElem?_take,hj]
  rw[this];simpa using h j hj
theorem BWO{c:Cht}:fX c=0↔(1<=c.ms.length/\c.ms.length<=40)/\c.ns.length<=20/\(1<=c.p.lo/\c.p.lo<=c.p.hi/\c.p.hi<=600)/\(-1000000<=c.base/\c.base<=1000000)/\(0<=c.scale/\c.scale<=1000)/\0<=c.off/\c.off<=1000:=by
 unfold fX eC
 cases a1:XA c.ms.length 1 40 with
 |false=>refine⟨λh=>(by simp at h),λh=>?_⟩;rw[PX.2 (by omega)] at a1;cases a1
 |true=>
  have i1:=PX.1 a1
  by_cases a2:(c.ns.length:Int)>20
  ·refine⟨λh=>(by simp[a2] at h),λh=>(by omega)⟩
  ·simp only[Bool.not_true,cond_false,a2,decide_false]
   cases b1:XA c.p.lo 1 600 with
   |false=>refine⟨λh=>(by simp at h),λh=>?_⟩;rw[PX.2 (by omega)] at b1;cases b1
   |true=>
    cases b2:XA c.p.hi c.p.lo 600 with
    |false=>refine⟨λh=>(by simp at h),λh=>?_⟩;rw[PX.2 (by omega)] at b2;cases b2
    |true=>
     cases b3:XA c.base (-1000000) 1000000 with
     |false=>refine⟨λh=>(by simp at h),λh=>?_⟩;rw[PX.2 (by omega)] at b3;cases b3
     |true=>
      cases b4:XA c.scale 0 1000 with
      |false=>refine⟨λh=>(by simp at h),λh=>?_⟩;rw[PX.2 (by omega)] at b4;cases b4
      |true=>
       cases b5:XA c.off 0 1000 with
       |false=>refine⟨λh=>(by simp at h),λh=>?_⟩;rw[PX.2 (by omega)] at b5;cases b5
       |true=>
        have:=PX.1 b1;have:=PX.1 b2;have:=PX.1 b3;have:=PX.1 b4;have:=PX.1 b5
        exact⟨λ_=>by omega,λ_=>rfl⟩
theorem CXP{c:Cht}:IQ c=0↔ChOk c:=by
 constructor
 ·intro h
  obtain⟨h1,h2,h3⟩:=kH h
  obtain⟨q1,q2,q3,q4,q5,q6⟩:=BWO.1 h1
  have hr:=(BXZ h).2
  unfold IQ at h
  rw[h1] at h
  cases hm:(mkC (-1) c.ms != 0) with
  |true=>rw[hm] at h;have h:mkC (-1) c.ms=0:=h;rw[h] at hm;cases hm
  |false=>
   have hm0:mkC (-1) c.ms=0:=by simpa using hm
   rw[hm] at h
   have ha:c.ns.all (λn=>Ak n c.ms.length)=true:=List.all_eq_true.2 hr
   rw[ha] at h
   cases hd:jD (dupP c.ns) c.ns.length with
   |false=>rw[hd] at h;cases h
   |true=>
    obtain⟨m1,_,m3⟩:=(CCC _ _).1 hm0
    exact⟨q1,q2,q3,q4,q5,q6,m1,m3,λn hn=>(BQS (by omega)).1 (hr n hn),λi j hij hj=>(CEZ hj).1 (kG.1 hd j hj) i hij⟩
 ·intro h
  have e1:=BWO.2 ⟨h.m,h.n,h.p,h.b,h.sc,h.of⟩
  have e2:mkC (-1) c.ms=0:=(CCC _ _).2 ⟨h.mks,λhp=>by have:=(h.mks 0 hp).1;omega,h.up⟩
  have e3:c.ns.all (λn=>Ak n c.ms.length)=true:=List.all_eq_true.2 λn hn=>(BQS (by have:=h.m;omega)).2 (h.nt n hn)
  have e4:jD (dupP c.ns) c.ns.length=true:=kG.2 λj hj=>(CEZ hj).2 λi hi=>h.one i j hi hj
  unfold IQ;rw[e1,e2,e3,e4];rfl
theorem DFI{l:List Nt}{j:Int}:hasN l j=true↔∃n∈l,n.mi=j:=by
 unfold hasN;rw[List.any_eq_true];simp
theorem BBE:∀{l:List Nt} {j:Int},hasN l j=true->ntOf l j∈l/\(ntOf l j).mi=j
 |[],j,h=>by simp[hasN] at h
 |n :: r,j,h=>by
  show (bif hasN r j then ntOf r j else bif n.mi==j then n else default)∈n :: r/\(bif hasN r j then ntOf r j else bif n.mi==j then n else default).mi=j
  cases hr:hasN r j with
  |true=>obtain⟨a,b⟩:=BBE hr;exact⟨List.mem_cons_of_mem _ a,b⟩
  |false=>
   have h2:(n.mi==j||hasN r j)=true:=h
   rw[hr,Bool.or_false] at h2
   rw[h2];exact⟨List.mem_cons_self ..,by simpa using h2⟩
theorem ChOk.ntOf{c:Cht}(h:ChOk c){n:Nt}(hn:n∈c.ns):Bal.ntOf c.ns n.mi=n:=by
 obtain⟨h1,h2⟩:=BBE (DFI.2 ⟨n,hn,rfl⟩)
 obtain⟨i,hi,e1⟩:=aQ hn
 obtain⟨j,hj,e2⟩:=aQ h1
 rcases Nat.lt_trichotomy i j with q | q | q
 ·exact absurd (by rw[e1,e2,h2]) (h.one i j q hj)
 ·subst q;rw[<-e2,e1]
 ·exact absurd (by rw[e1,e2,h2]) (h.one j i q hi)
end Go.Bal

namespace Go.Bal
open Go Go.Sym Go.Proofs
theorem Wv{α:Type}[Inhabited α](l:List α)(x:α)(i:Nat)(h:i<l.length+1):gD (l ++ [x]) i=bif decide (i<l.length) then gD l i else x:=by
 rw[yX]
 by_cases h2:i<l.length
 ·simp[h2]
 ·have:i-l.length=0:=by omega
  rw[if_neg h2,this,decide_eq_false h2];rfl
end Go.Bal


namespace Go.Bal
open Go Go.Sym Go.Proofs
structure SS2 where
 l:List Span
 m:List Span
def eqS(x:SS2)(i:Nat):Bool:=(gD x.l i).lo==(gD x.m i).lo&&(gD x.l i).hi==(gD x.m i).hi
end Go.Bal

namespace Go.Bal.DLQ
open Go.Sym Go
theorem m1(n:Int):EO (.v (.int .u8 n))=n:=rfl
end Go.Bal.DLQ
namespace Go.Bal
open Go Go.Sym Go.Proofs
structure StmQ where
 bs:List Int
 used:Int
 mix:Int
 deriving Inhabited
end Go.Bal
namespace Go.Bal.DLQ
theorem m2(s:StmQ):StmQ.mk s.bs s.used s.mix=s:=rfl
end Go.Bal.DLQ
namespace Go.Bal
open Go Go.Sym Go.Proofs
def DUD(l:List Int):DVal:=lst 1 l.length λi=>.v (.int .u8 (gD l i))
def CON(s:StmQ):AObj:=.box [.d (DUD s.bs),.int s.used,.int s.mix]
def AOL(s:StmQ):HCell:=.live (CON s)
def BXQ(H:Heap)(id:Nat):Option StmQ:=match H id with
 | .live (.box [.d (.list _ n g _),.d (.v (.int _ u)),.d (.v (.int _ m))])=>some ⟨KA n λi=>EO (g i),u,m⟩
 |_=>none
def YR(s:StmQ):Int:=if s.bs.length<=s.used then MQ (MQ (gD s.bs (s.used.tmod s.bs.length).toNat)+MQ (MQ (11*s.mix)+MQ (s.used.tdiv s.bs.length))) else MQ (gD s.bs (s.used.tmod s.bs.length).toNat)
def Ut(s:StmQ):Int:=(MQ (MQ (MQ (5*s.mix)+YR s)+1)).tmod 251
def BCC(s:StmQ)(n:Int):Bool:=if n<2 then true else decide (s.bs.length=0)
def BQ(s:StmQ)(n:Int):StmQ:=if BCC s n then s else⟨s.bs,MQ (s.used+1),Ut s⟩
def BA(s:StmQ)(n:Int):Int:=if BCC s n then 0 else (if 256<n then MQ (MQ (256*YR s)+Ut s) else YR s).tmod n
structure SNQ where
 s:StmQ
 n:Int
def C_NextQ:Ctr:={ α:=SNQ,xs:=λa=>[.bptr 100 0,.int a.n],L:=λa=>[(100,CON a.s)],val:=λa=>.int (BA a.s a.n),keep:=λa=>[(100,AOL (BQ a.s a.n))],pre:=λa=>[0<=a.s.used] }
def BYS:List AVal->Heap->Option (SNQ×List (Nat×Nat)×List Nat)
 |[.bptr p _,.d (.v (.int _ n))],H=>match BXQ H p with
  |some s=>some (⟨s,n⟩,[(100,p)],[])
  |none=>none
 |_,_=>none
def CRM:Ann:={ ann 92 [] with E:=[100] }
def COJ(a:SNQ):Prop:=BG Try.prog CRM BXN (AL BXN) (C_NextQ.xs a) (AF (C_NextQ.L a)) (C_NextQ.val a) (C_NextQ.keep a) [] []
abbrev Xu:=SNQ.n
abbrev APA:=StmQ.bs
abbrev AJK:=SNQ.s
abbrev BBJ:=BA
abbrev BLZ:=BQ
abbrev X2:=StmQ.used
abbrev X4:=StmQ.mix
abbrev pW:=Int.tmod
abbrev Es a b c d e f g:=BB a (AO b c) d e f g
abbrev Rc a:=pW (ED a) 251
abbrev cO a b c:=xR (PW a b) c
abbrev Wb a b:=BJ a (FZ b)
abbrev AEL a b:=pW a (ER b)
abbrev xN a b:=Wb a (AEL b a)
abbrev Db a:=X2 (AJK a)
abbrev TQ a:=APA (AJK a)
abbrev Xg a:=X4 (AJK a)
abbrev bK a:=BLZ (AJK a) (Xu a)
abbrev gP a:=APA (bK a)
abbrev AJL a b:=EV (xN a b)
abbrev Ow a:=BO a PS
abbrev Nn a:=Ow (BE a)
abbrev Zy a b c:=DK (PW a b) c
abbrev Ev a:=AO a FU
abbrev Kt a:=Ow (Ev a)
abbrev cC a b c d:=DK (AJL a b) (cO 11 c (Int.tdiv b d))
abbrev iL a:=ER (TQ a)
attribute [go_sem] Xu APA AJK BBJ BLZ X2 X4 pW Es Rc cO Wb AEL xN Db TQ Xg bK gP AJL Ow Nn Zy Ev Kt cC iL
theorem CWO(a:SNQ):(COJ a)=(DV (OK (JD (Xu a) 2) (GA (iL a))) (AJ (BE (BBJ (AJK a) (Xu a))) (AW (gP a) (TQ a)) (AS (gP a) (TQ a)) (AO (X2 (bK a)) (Db a)) (AO (X4 (bK a)) (Xg a))) (BF (Be (VD (iL a)) (AEL (Db a) (TQ a)) (DX (AEL (Db a) (TQ a)) (iL a))) (hd6 (Db a) (iL a)) (PC (Nn (iL a)) (Kt (UH 251)) (Pp (Xu a) 256) (Es (Nn (Xu a)) (BBJ (AJK a) (Xu a)) (pW (Zy 256 (cC (TQ a) (Db a) (Xg a) (iL a)) (Rc (Zy 5 (Xg a) (cC (TQ a) (Db a) (Xg a) (iL a))))) (Xu a)) (AW (gP a) (TQ a)) (AS (gP a) (TQ a)) (AO (X2 (bK a)) (ED (Db a))) (AO (X4 (bK a)) (Rc (Zy 5 (Xg a) (cC (TQ a) (Db a) (Xg a) (iL a)))))) (Es (Nn (Xu a)) (BBJ (AJK a) (Xu a)) (pW (cC (TQ a) (Db a) (Xg a) (iL a)) (Xu a)) (AW (gP a) (TQ a)) (AS (gP a) (TQ a)) (AO (X2 (bK a)) (ED (Db a))) (AO (X4 (bK a)) (Rc (Zy 5 (Xg a) (cC (TQ a) (Db a) (Xg a) (iL a))))))) (BF (Kt (UH 251)) (Pp (Xu a) 256) (Es (Nn (Xu a)) (BBJ (AJK a) (Xu a)) (pW (Zy 256 (AJL (TQ a) (Db a)) (Rc (cO 5 (Xg a) (xN (TQ a) (Db a))))) (Xu a)) (AW (gP a) (TQ a)) (AS (gP a) (TQ a)) (AO (X2 (bK a)) (ED (Db a))) (AO (X4 (bK a)) (Rc (cO 5 (Xg a) (xN (TQ a) (Db a)))))) (Es (Nn (Xu a)) (BBJ (AJK a) (Xu a)) (pW (AJL (TQ a) (Db a)) (Xu a)) (AW (gP a) (TQ a)) (AS (gP a) (TQ a)) (AO (X2 (bK a)) (ED (Db a))) (AO (X4 (bK a)) (Rc (cO 5 (Xg a) (xN (TQ a) (Db a))))))))):=by kernel_rfl
def CZV(lo hi:Int):Int:=MQ (MQ (hi-lo)+1)
def Js(s:StmQ)(lo hi:Int):Int:=MQ (lo+BA s (CZV lo hi))
def Ad(s:StmQ)(lo hi:Int):StmQ:=BQ s (CZV lo hi)
structure SWQ where
 s:StmQ
 lo:Int
 hi:Int
def C_WithinQ:Ctr:={ α:=SWQ,xs:=λa=>[.bptr 100 0,.int a.lo,.int a.hi],L:=λa=>[(100,CON a.s)],val:=λa=>.int (Js a.s a.lo a.hi),keep:=λa=>[(100,AOL (Ad a.s a.lo a.hi))],pre:=λa=>[0<=a.s.used] }
def BVO:List AVal->Heap->Option (SWQ×List (Nat×Nat)×List Nat)
 |[.bptr p _,.d (.v (.int _ n)),.d (.v (.int _ m))],H=>match BXQ H p with
  |some s=>some (⟨s,n,m⟩,[(100,p)],[])
  |none=>none
 |_,_=>none
def BXI:Ann:={ ann 15 [(BNF,C_NextQ.spec BYS)] with E:=[100] }
def BWK(a:SWQ):Prop:=BG Try.prog BXI BKB (AL BKB) (C_WithinQ.xs a) (AF (C_WithinQ.L a)) (C_WithinQ.val a) (C_WithinQ.keep a) [] []
abbrev zE:=SWQ.hi
abbrev tI:=SWQ.lo
abbrev AOP:=SWQ.s
abbrev BCN:=StmQ.mk
abbrev Tw a b:=ED (LI a b)
abbrev ACA a:=X4 (AOP a)
abbrev F5 a:=X2 (AOP a)
abbrev L4 a:=APA (AOP a)
abbrev BJI a b:=Int.NonNeg (Kq a b)
abbrev QC a:=AS (DG a) a
abbrev OD a:=AW (DG a) a
attribute [go_sem] zE tI AOP BCN Tw ACA F5 L4 BJI QC OD
theorem CMF(a:SWQ):(BWK a)=(Es (BB (AI (Tw (zE a) (tI a))) (OD (L4 a)) (QC (L4 a)) (AI (F5 a)) (AI (ACA a)) (BJI (F5 a) 0)) (Js (AOP a) (tI a) (zE a)) (DK (tI a) (BBJ (BCN (DG (L4 a)) (F5 a) (ACA a)) (Tw (zE a) (tI a)))) (AW (APA (Ad (AOP a) (tI a) (zE a))) (APA (BLZ (BCN (DG (L4 a)) (F5 a) (ACA a)) (Tw (zE a) (tI a))))) (AS (APA (Ad (AOP a) (tI a) (zE a))) (APA (BLZ (BCN (DG (L4 a)) (F5 a) (ACA a)) (Tw (zE a) (tI a))))) (AO (X2 (Ad (AOP a) (tI a) (zE a))) (X2 (BLZ (BCN (DG (L4 a)) (F5 a) (ACA a)) (Tw (zE a) (tI a))))) (AO (X4 (Ad (AOP a) (tI a) (zE a))) (X4 (BLZ (BCN (DG (L4 a)) (F5 a) (ACA a)) (Tw (zE a) (tI a)))))):=by kernel_rfl
theorem DJF(s:StmQ)(n:Int):(bif decide (n<2) then true else (s.bs.length:Int)==0)=BCC s n:=by
 unfold BCC
 by_cases h:n<2
 ·simp[h]
 ·simp only[h,decide_false,cond_false,if_false]
  by_cases h2:s.bs.length=0
  ·simp[h2]
  ·have:¬ (s.bs.length:Int)=0:=by omega
   simp[h2]
theorem CYN{a b:Int}(ha:0<=a)(hb:0<b):0<=a.tmod b/\a.tmod b<b:=by
 rw[Int.tmod_eq_emod_of_nonneg ha]
 exact⟨Int.emod_nonneg _ (by omega),Int.emod_lt_of_pos _ hb⟩
theorem DIC(a:SNQ)(h:0<=a.s.used):COJ a:=by
 rw[CWO]<;> delta hd5 hd6 NE AR AK BO CI AO AU UH DV JD DJ DX OP Cu QJ Pp FZ PS BN BJ Hy Xu APA AJK BBJ BLZ X2 X4 pW AH AJ AZ EV DK ED BC EZ xR JA ER AW HL IA BB KC FG EN AS BF FU BE PW TQ Wb cO AEL Db GA Ow xN bK OK AJL Ev Nn Xg PC gP Rc VD Be iL Kt Zy cC Es;simp only[CCQ,eq_self,implies_true,forall_const,DJF]
 refine⟨λhi=>?_,λhi=>?_⟩
 ·have e1:BA a.s a.n=0:=by unfold BA;rw[hi];rfl
  have e2:BQ a.s a.n=a.s:=by unfold BQ;rw[hi];rfl
  rw[e1,e2];exact⟨rfl,rfl,λ_ _=>rfl,rfl,rfl⟩
 have hi2:¬ a.n<2/\¬ a.s.bs.length=0:=by
  unfold BCC at hi
  by_cases x:a.n<2
  ·rw[if_pos x] at hi;cases hi
  ·rw[if_neg x] at hi;exact⟨x,by simpa using hi⟩
 obtain⟨i1,i2⟩:=hi2
 have e1:BA a.s a.n=(if 256<a.n then MQ (MQ (256*YR a.s)+Ut a.s) else YR a.s).tmod a.n:=by unfold BA;rw[hi];rfl
 have e2:BQ a.s a.n=⟨a.s.bs,MQ (a.s.used+1),Ut a.s⟩:=by unfold BQ;rw[hi];rfl
 have hm:=CYN h (show 0<(a.s.bs.length:Int) by omega)
 rw[e1,e2]
 refine⟨⟨by omega,hm⟩,λhu=>⟨by omega,by decide,λhn=>⟨by omega,?_⟩,λhn=>⟨by omega,?_⟩⟩,λhu=>⟨by decide,λhn=>⟨by omega,?_⟩,λhn=>⟨by omega,?_⟩⟩⟩
 ·rw[if_pos (by omega)];unfold Ut YR;rw[if_pos (by omega)];exact⟨rfl,rfl,λ_ _=>rfl,rfl,rfl⟩
 ·rw[if_neg (by omega)];unfold Ut YR;rw[if_pos (by omega)];exact⟨rfl,rfl,λ_ _=>rfl,rfl,rfl⟩
 ·rw[if_pos (by omega)];unfold Ut YR;rw[if_neg (by omega)];exact⟨rfl,rfl,λ_ _=>rfl,rfl,rfl⟩
 ·rw[if_neg (by omega)];unfold Ut YR;rw[if_neg (by omega)];exact⟨rfl,rfl,λ_ _=>rfl,rfl,rfl⟩
theorem CFE:AM Try.prog BNF (C_NextQ.spec BYS):=WY C_NextQ (λ_=>CRM) [] [] CZK (λ_=>by kernel_rfl) (λ_=>AG) (λa h=>DIC a h) (λ_=>YE rfl rfl) _
theorem CTH(a:SWQ)(h:0<=a.s.used):BWK a:=by
 rw[CMF]<;> delta NE Kq AR AK BO CI AO OP BN BJ JN APA BBJ BLZ X2 X4 zE tI AOP BCN AH LY LX AJ AZ EV AI DG DK LI ED EZ Tw JA AW HL IA BB KC FG EN AS OD BJI QC F5 L4 ACA Es;simp only[CCQ,eq_self,implies_true,forall_const]
 exact⟨h,rfl,rfl,λ_ _=>rfl,rfl,rfl⟩
theorem CLG:AM Try.prog BEO (C_WithinQ.spec BVO):=WY C_WithinQ (λ_=>BXI) [] [] CML (λ_=>by kernel_rfl) (λ_=>AB CFE AG) (λa h=>CTH a h) (λ_=>YE rfl rfl) _
structure StmBQ(K:Int)(s:StmQ):Prop where
 used:0<=s.used/\s.used<=K
 mix:0<=s.mix/\s.mix<251
 bs:∀i,i<s.bs.length->0<=gD s.bs i/\gD s.bs i<=255
theorem BQL{a b:Int}(ha:0<=a)(hb:0<b):0<=a.tmod b/\a.tmod b<b:=by
 rw[Int.tmod_eq_emod_of_nonneg ha]
 exact⟨Int.emod_nonneg _ (by omega),Int.emod_lt_of_pos _ hb⟩
theorem BVZ{K:Int}{s:StmQ}(h:StmBQ K s)(hK:K<=1000000000000000)(hb:s.bs.length≠0):0<=YR s/\YR s<=1000000000010000:=by
 have hu:=h.used
 have hm:=h.mix
 have hi:=BQL hu.1 (show 0<(s.bs.length:Int) by omega)
 have hx:=h.bs (s.used.tmod s.bs.length).toNat (by omega)
 have hq:0<=s.used.tdiv s.bs.length/\s.used.tdiv s.bs.length<=1000000000000000:=by
  rw[Int.tdiv_eq_ediv_of_nonneg hu.1]
  refine⟨Int.ediv_nonneg hu.1 (by omega),?_⟩
  have:=Int.ediv_le_self (s.bs.length:Int) hu.1
  omega
 have e0:MQ (gD s.bs (s.used.tmod s.bs.length).toNat)=gD s.bs (s.used.tmod s.bs.length).toNat:=JC (by omega) (by omega)
 have e1:MQ (11*s.mix)=11*s.mix:=JC (by omega) (by omega)
 have e2:MQ (s.used.tdiv s.bs.length)=s.used.tdiv s.bs.length:=JC (by omega) (by omega)
 have e3:MQ (11*s.mix+s.used.tdiv s.bs.length)=11*s.mix+s.used.tdiv s.bs.length:=JC (by omega) (by omega)
 have e4:MQ (gD s.bs (s.used.tmod s.bs.length).toNat+(11*s.mix+s.used.tdiv s.bs.length))=gD s.bs (s.used.tmod s.bs.length).toNat+(11*s.mix+s.used.tdiv s.bs.length):=JC (by omega) (by omega)
 unfold YR
 rw[e0,e1,e2,e3,e4]
 split<;>omega
theorem BVV{K:Int}{s:StmQ}(h:StmBQ K s)(hK:K<=1000000000000000)(hb:s.bs.length≠0):0<=Ut s/\Ut s<251:=by
 have hm:=h.mix
 have hn:=BVZ h hK hb
 have e1:MQ (5*s.mix)=5*s.mix:=JC (by omega) (by omega)
 have e2:MQ (5*s.mix+YR s)=5*s.mix+YR s:=JC (by omega) (by omega)
 have e3:MQ (5*s.mix+YR s+1)=5*s.mix+YR s+1:=JC (by omega) (by omega)
 unfold Ut
 rw[e1,e2,e3]
 exact BQL (by omega) (by omega)
theorem CRA{s:StmQ}{n:Int}(h:BCC s n=false):2<=n/\s.bs.length≠0:=by
 unfold BCC at h
 by_cases x:n<2
 ·rw[if_pos x] at h;cases h
 ·rw[if_neg x] at h;exact⟨by omega,by simpa using h⟩
theorem StmBQ.mono{K M:Int}{s:StmQ}(h:StmBQ K s)(hK:K<=M):StmBQ M s:=⟨⟨h.used.1,by have:=h.used;omega⟩,h.mix,h.bs⟩
theorem StmBQ.next{K:Int}{s:StmQ}(h:StmBQ K s)(hK:K<=1000000000000000)(n:Int):StmBQ (K+1) (BQ s n):=by
 unfold BQ
 cases hi:BCC s n with
 |true=>exact h.mono (by omega)
 |false=>
  obtain⟨_,hb⟩:=CRA hi
  have hu:=h.used
  have e:MQ (s.used+1)=s.used+1:=JC (by omega) (by omega)
  refine⟨?_,BVV h hK hb,h.bs⟩
  show 0<=MQ (s.used+1)/\MQ (s.used+1)<=K+1
  rw[e];omega
theorem WT{K:Int}{s:StmQ}(h:StmBQ K s)(hK:K<=1000000000000000)(n:Int):0<=BA s n/\(1<=n->BA s n<n):=by
 unfold BA
 cases hi:BCC s n with
 |true=>exact⟨Int.le_refl _,λh=>by show (0:Int)<n;omega⟩
 |false=>
  obtain⟨hn,hb⟩:=CRA hi
  have h1:=BVZ h hK hb
  have h2:=BVV h hK hb
  have e1:MQ (256*YR s)=256*YR s:=JC (by omega) (by omega)
  have e2:MQ (256*YR s+Ut s)=256*YR s+Ut s:=JC (by omega) (by omega)
  rw[e1,e2]
  have:=BQL (a:=if 256<n then 256*YR s+Ut s else YR s) (b:=n) (by split<;>omega) (by omega)
  exact⟨this.1,λ_=>this.2⟩
theorem yE{K:Int}{s:StmQ}(h:StmBQ K s)(hK:K<=1000000000000000){lo hi:Int}(h1:-1000000000<=lo)(h2:lo<=hi)(h3:hi<=1000000000):lo<=Js s lo hi/\Js s lo hi<=hi:=by
 have e1:MQ (hi-lo)=hi-lo:=JC (by omega) (by omega)
 have e2:MQ (hi-lo+1)=hi-lo+1:=JC (by omega) (by omega)
 unfold Js CZV
 rw[e1,e2]
 have:=WT h hK (hi-lo+1)
 have h4:=this.2 (by omega)
 have e3:MQ (lo+BA s (hi-lo+1))=lo+BA s (hi-lo+1):=JC (by omega) (by omega)
 rw[e3];omega
end Go.Bal
