/- Times along a chart: spans, and what can pass between two of them that follow one another. -/
import Derived.Test.YtceloknnpdonhaaGreatCom0
set_option linter.unusedVariables false
set_option linter.unusedSimpArgs false
namespace Go.Bal
open Go Go.Sym
def Span.has(s:Span)(x:Int):Prop:=s.lo<=x/\x<=s.hi
def com(a b:Span):Span:=⟨OL a.lo b.lo,Ie a.hi b.hi⟩
theorem BNS{a b c:Int}:OL a b<=c↔a<=c/\b<=c:=by unfold OL;split<;>omega
theorem CBQ{a b c:Int}:c<=Ie a b↔c<=a/\c<=b:=by unfold Ie;split<;>omega
theorem qO{a b:Span}{x:Int}:(com a b).has x↔a.has x/\b.has x:=by
 unfold Span.has com;rw[BNS,CBQ];omega
theorem DSL(a b:Span):a.lo<=(com a b).lo:=(BNS.1 (Int.le_refl _)).1
theorem DQI(a b:Span):(com a b).hi<=a.hi:=(CBQ.1 (Int.le_refl _)).1
structure Tr(l s:Nat->Span)(n:Nat)(t:Nat->Int):Prop where
 at_:∀i,i<=n->(l i).has (t i)
 gap:∀g,g<n->(s g).has (t (g+1)-t g)
structure ArcOk(N s:Nat->Span)(n:Nat):Prop where
 ne:∀i,i<=n->(N i).lo<=(N i).hi
 up:∀g,g<n->∀x,(N g).has x->(N (g+1)).has (OL (N (g+1)).lo (x+(s g).lo))/\(s g).has (OL (N (g+1)).lo (x+(s g).lo)-x)
 down:∀g,g<n->∀y,(N (g+1)).has y->∃x,(N g).has x/\(s g).has (y-x)
theorem Tr.ext{l s:Nat->Span}{n:Nat}{t:Nat->Int}(h:Tr l s n t){y:Int}(h1:(l (n+1)).has y)(h2:(s n).has (y-t n)):Tr l s (n+1) (λk=>if k=n+1 then y else t k):=by
 refine⟨λi hi=>?_,λg hg=>?_⟩
 ·by_cases e:i=n+1
  ·subst e;simpa using h1
  ·simp only[e,if_false];exact h.at_ i (by omega)
 ·by_cases e:g=n
  ·subst e;simpa using h2
  ·have e1:¬ g+1=n+1:=by omega
   have e2:¬ g=n+1:=by omega
   simp only[e1,e2,if_false];exact h.gap g (by omega)
theorem ArcOk.some{N s:Nat->Span}{n:Nat}(h:ArcOk N s n){i:Nat}(hi:i<=n){x:Int}(hx:(N i).has x):∃t,Tr N s n t/\t i=x:=by
 have low:∀i,i<=n->∀x,(N i).has x->∃t,Tr N s i t/\t i=x:=by
  intro i
  induction i with
  |zero=>
   intro _ x hx
   refine⟨λ_=>x,⟨λk hk=>?_,λg hg=>by omega⟩,rfl⟩
   obtain rfl:k=0:=by omega
   exact hx
  |succ i ih=>
   intro hi x hx
   obtain⟨y,hy1,hy2⟩:=h.down i (by omega) x hx
   obtain⟨t,ht,rfl⟩:=ih (by omega) y hy1
   exact⟨_,ht.ext hx hy2,by simp⟩
 have high:∀d,i+d<=n->∃t,Tr N s (i+d) t/\t i=x:=by
  intro d
  induction d with
  |zero=>intro _;exact low i hi x hx
  |succ d ih=>
   intro hm
   obtain⟨t,ht,rfl⟩:=ih (by omega)
   obtain⟨h1,h2⟩:=h.up (i+d) (by omega) (t (i+d)) (ht.at_ _ (Nat.le_refl _))
   have e:¬ i=i+d+1:=by omega
   exact⟨_,ht.ext h1 h2,by simp only[e,if_false]⟩
 have:=high (n-i) (by omega)
 rwa [show i+(n-i)=n by omega] at this
def lowT(N s:Nat->Span):Nat->Int
 |0=>(N 0).lo
 |g+1=>OL (N (g+1)).lo (lowT N s g+(s g).lo)
theorem ArcOk.low{N s:Nat->Span}{n:Nat}(h:ArcOk N s n):Tr N s n (lowT N s):=by
 have:∀i,i<=n->(N i).has (lowT N s i):=by
  intro i
  induction i with
  |zero=>intro _;exact⟨Int.le_refl _,h.ne 0 (by omega)⟩
  |succ i ih=>intro hi;exact (h.up i (by omega) _ (ih (by omega))).1
 exact⟨this,λg hg=>(h.up g hg _ (this g (by omega))).2⟩
def fw(l s:Nat->Span):Nat->Span
 |0=>l 0
 |g+1=>com (l (g+1)) ⟨(fw l s g).lo+(s g).lo,(fw l s g).hi+(s g).hi⟩
def bk(f s:Nat->Span)(n:Nat):Nat->Span
 |0=>f n
 |j+1=>com (f (n-(j+1))) ⟨(bk f s n j).lo-(s (n-(j+1))).hi,(bk f s n j).hi-(s (n-(j+1))).lo⟩
def nar(l s:Nat->Span)(n i:Nat):Span:=bk (fw l s) s n (n-i)
theorem DQU{l s:Nat->Span}{x:Int}:∀{i:Nat},(fw l s i).has x->(l i).has x
 |0,h=>h
 |i+1,h=>(qO.1 h).1
theorem DAM{f s:Nat->Span}{n:Nat}{x:Int}:∀{j:Nat},(bk f s n j).has x->(f (n-j)).has x
 |0,h=>h
 |j+1,h=>(qO.1 h).1
theorem DJZ{l s:Nat->Span}{n i:Nat}{x:Int}(hi:i<=n)(h:(nar l s n i).has x):(l i).has x:=by
 have:=DQU (DAM h)
 rwa [show n-(n-i)=i by omega] at this
theorem Tr.fw{l s:Nat->Span}{n:Nat}{t:Nat->Int}(h:Tr l s n t):∀i,i<=n->(fw l s i).has (t i)
 |0,hi=>h.at_ 0 hi
 |i+1,hi=>by
  refine qO.2 ⟨h.at_ _ hi,?_⟩
  have h1:=h.fw i (by omega)
  have h2:=h.gap i (by omega)
  unfold Span.has at *;simp only;omega
theorem Tr.nar{l s:Nat->Span}{n:Nat}{t:Nat->Int}(h:Tr l s n t):∀i,i<=n->(nar l s n i).has (t i):=by
 have:∀j,j<=n->(bk (Bal.fw l s) s n j).has (t (n-j)):=by
  intro j
  induction j with
  |zero=>intro _;exact h.fw n (Nat.le_refl n)
  |succ j ih=>
   intro hj
   refine qO.2 ⟨h.fw _ (by omega),?_⟩
   have h1:=ih (by omega)
   have h2:=h.gap (n-(j+1)) (by omega)
   rw[show n-(j+1)+1=n-j by omega] at h2
   unfold Span.has at *;simp only;omega
 intro i hi
 have h:=this (n-i) (by omega)
 rwa [show n-(n-i)=i by omega] at h
theorem DHQ{l s:Nat->Span}{n:Nat}(hs:∀g,g<n->(s g).lo<=(s g).hi)(hne:∀i,i<=n->(nar l s n i).lo<=(nar l s n i).hi):ArcOk (nar l s n) s n:=by
 have eb:∀g,g<n->nar l s n g=com (fw l s g) ⟨(nar l s n (g+1)).lo-(s g).hi,(nar l s n (g+1)).hi-(s g).lo⟩:=λg hg=>by
  unfold nar
  obtain⟨j,hj⟩:∃j,n-g=j+1:=⟨n-g-1,by omega⟩
  rw[hj,show n-(g+1)=j by omega]
  show com (fw l s (n-(j+1))) _=_
  rw[show n-(j+1)=g by omega]
 refine⟨hne,λg hg x hx=>?_,λg hg y hy=>?_⟩
 ·have h1:=hne (g+1) (by omega)
  have h2:=hs g hg
  rw[eb g hg] at hx
  have h3:=(qO.1 hx).2
  generalize nar l s n (g+1)=N at *
  unfold Span.has OL at *;simp only at h3;split<;>omega
 ·have h1:=hs g hg
  have h2:=hne g (by omega)
  have e:=eb g hg
  have h4:(fw l s (g+1)).has y:=by
   have:=DAM (f:=fw l s) (s:=s) (n:=n) hy
   rwa [show n-(n-(g+1))=g+1 by omega] at this
  have h5:=(qO.1 h4).2
  have h6:(fw l s g).lo<=(fw l s g).hi:=by
   rw[e] at h2
   have:=DSL (fw l s g) ⟨(nar l s n (g+1)).lo-(s g).hi,(nar l s n (g+1)).hi-(s g).lo⟩
   have:=DQI (fw l s g) ⟨(nar l s n (g+1)).lo-(s g).hi,(nar l s n (g+1)).hi-(s g).lo⟩
   omega
  refine⟨OL (fw l s g).lo (y-(s g).hi),?_,?_⟩
  ·rw[e];refine qO.2 ?_
   generalize nar l s n (g+1)=N at *
   generalize fw l s g=F at *
   unfold Span.has OL at *;simp only at h5 ⊢;split<;>omega
  ·generalize fw l s g=F at *
   unfold Span.has OL at *;simp only at h5 ⊢;split<;>omega
theorem CNX{l s:Nat->Span}{n:Nat}(hs:∀g,g<n->(s g).lo<=(s g).hi)(hne:∀i,i<=n->(nar l s n i).lo<=(nar l s n i).hi){i:Nat}(hi:i<=n){x:Int}:(nar l s n i).has x↔∃t,Tr l s n t/\t i=x:=by
 constructor
 ·intro hx
  obtain⟨t,ht,e⟩:=(DHQ hs hne).some hi hx
  exact⟨t,⟨λk hk=>DJZ hk (ht.at_ k hk),ht.gap⟩,e⟩
 ·rintro⟨t,ht,rfl⟩;exact ht.nar i hi
theorem CGF{l s:Nat->Span}{n:Nat}(hs:∀g,g<n->(s g).lo<=(s g).hi):(∀i,i<=n->(nar l s n i).lo<=(nar l s n i).hi)↔∃t,Tr l s n t:=
 ⟨λh=>let ⟨t,ht,_⟩:=(CNX hs h (Nat.zero_le n)).1 ⟨Int.le_refl _,h 0 (Nat.zero_le n)⟩;⟨t,ht⟩,λ⟨t,ht⟩ i hi=>Int.le_trans (ht.nar i hi).1 (ht.nar i hi).2⟩
end Go.Bal

namespace Go.Bal
open Go Go.Sym Go.Proofs
structure Mk where
 pl:Int
 ht:Int
 deriving Inhabited,DecidableEq
structure Nt where
 mi:Int
 t:Span
 s:Span
 deriving Inhabited,DecidableEq
structure Pr where
 a:Int
 b:Int
 deriving Inhabited,DecidableEq
structure Cht where
 p:Span
 base:Int
 scale:Int
 off:Int
 ms:List Mk
 ns:List Nt
 deriving Inhabited,DecidableEq
structure Tru where
 t:List Int
 s:List Int
 z:List Int
 deriving Inhabited,DecidableEq
def eMk(m:Mk):DVal:=.agg [JS m.pl,JS m.ht]
def eNt(n:Nt):DVal:=.agg [JS n.mi,JS n.t.lo,JS n.t.hi,JS n.s.lo,JS n.s.hi]
def ePr(p:Pr):DVal:=.agg [JS p.a,JS p.b]
def eMks(l:List Mk):DVal:=lst 2 l.length λi=>eMk (gD l i)
def eNts(l:List Nt):DVal:=lst 5 l.length λi=>eNt (gD l i)
def SR(l:List Span):DVal:=lst 2 l.length λi=>TF (gD l i)
def eCht(c:Cht):DVal:=.agg [JS c.p.lo,JS c.p.hi,JS c.base,JS c.scale,JS c.off,eMks c.ms,eNts c.ns]
def eTru(t:Tru):DVal:=.agg [FE t.t,FE t.s,FE t.z]
def dMk:DVal->Mk
 | .agg [a,b]=>⟨EO a,EO b⟩
 |_=>default
def dNt:DVal->Nt
 | .agg [a,b,c,d,e]=>⟨EO a,⟨EO b,EO c⟩,⟨EO d,EO e⟩⟩
 |_=>default
def dPr:DVal->Pr
 | .agg [a,b]=>⟨EO a,EO b⟩
 |_=>default
theorem DTK(g:Mk):dMk (eMk g)=g:=rfl
theorem DXL(g:Nt):dNt (eNt g)=g:=rfl
theorem DUR(g:Pr):dPr (ePr g)=g:=rfl
def dMks(a:AVal)(H:Heap):Option (List Mk×List Nat):=match vE a H with
 |some (n,g,f)=>some (KA n λi=>dMk (g i),f)
 |none=>none
def dNts(a:AVal)(H:Heap):Option (List Nt×List Nat):=match vE a H with
 |some (n,g,f)=>some (KA n λi=>dNt (g i),f)
 |none=>none
def BOO(a:AVal)(H:Heap):Option (List Span×List Nat):=match vE a H with
 |some (n,g,f)=>some (KA n λi=>Ty (g i),f)
 |none=>none
def DBP:AVal->Heap->Option (Cht×List Nat)
 | .d (.agg [a,b,c,d,e,.list _ n f _,.list _ m g _]),_=>some (⟨⟨EO a,EO b⟩,EO c,EO d,EO e,KA n λi=>dMk (f i),KA m λi=>dNt (g i)⟩,[])
 | .agg [.d a,.d b,.d c,.d d,.d e,x,y],H=>match dMks x H,dNts y H with
  |some (l,f1),some (m,f2)=>some (⟨⟨EO a,EO b⟩,EO c,EO d,EO e,l,m⟩,f1 ++ f2)
  |_,_=>none
 |_,_=>none
def pDQ{α:Type}(dec:List AVal->Option α)(val:α->AVal)(pre:α->List Prop:=λ_=>[]):Sym.Spec:=yR λxs=>match dec xs with
 |some a=>some (val a,pre a)
 |none=>none
theorem ATH{α:Type}{g:FuncId}{dec:List AVal->Option α}{val:α->AVal}{pre:α->List Prop}(enc:α->List AVal)(hde:∀xs a,dec xs=some a->xs=enc a)(h:∀a,EL (pre a)->FnT Try.prog g (enc a) (AF []) (val a) []):AM Try.prog g (pDQ dec val pre):=sE λxs v p hf hp=>by
 split at hf
 ·rename_i a ha
  cases hf
  rw[hde xs a ha];exact h a hp
 ·cases hf
structure I2Q where
 a:Int
 b:Int
structure I3Q where
 a:Int
 b:Int
 c:Int
def dI3Q:List AVal->Option I3Q
 |[.d (.v (.int .i64 a)),.d (.v (.int .i64 b)),.d (.v (.int .i64 c))]=>some ⟨a,b,c⟩
 |_=>none
def xI3Q(x:I3Q):List AVal:=[.int x.a,.int x.b,.int x.c]
theorem hI3Q(xs:List AVal)(a:I3Q)(h:dI3Q xs=some a):xs=xI3Q a:=by
 unfold dI3Q at h;split at h<;>cases h;rfl
def dS1:List AVal->Option Span
 |[.d (.agg [.v (.int .i64 a),.v (.int .i64 b)])]=>some ⟨a,b⟩
 |_=>none
def xS1(g:Span):List AVal:=[.d (TF g)]
theorem hS1(xs:List AVal)(a:Span)(h:dS1 xs=some a):xs=xS1 a:=by
 unfold dS1 at h;split at h<;>cases h;rfl
structure SII where
 s:Span
 a:Int
 b:Int
def dSII:List AVal->Option SII
 |[.d (.agg [.v (.int .i64 p),.v (.int .i64 q)]),.d (.v (.int .i64 a)),.d (.v (.int .i64 b))]=>some ⟨⟨p,q⟩,a,b⟩
 |_=>none
def xSII(x:SII):List AVal:=[.d (TF x.s),.int x.a,.int x.b]
theorem hSII(xs:List AVal)(a:SII)(h:dSII xs=some a):xs=xSII a:=by
 unfold dSII at h;split at h<;>cases h;rfl
structure NtI where
 n:Nt
 a:Int
def dNtI:List AVal->Option NtI
 |[.d (.agg [.v (.int .i64 a),.v (.int .i64 b),.v (.int .i64 c),.v (.int .i64 d),.v (.int .i64 e)]),.d (.v (.int .i64 s))]=>some ⟨⟨a,⟨b,c⟩,⟨d,e⟩⟩,s⟩
 |_=>none
def xNtI(x:NtI):List AVal:=[.d (eNt x.n),.int x.a]
theorem hNtI(xs:List AVal)(a:NtI)(h:dNtI xs=some a):xs=xNtI a:=by
 unfold dNtI at h;split at h<;>cases h;rfl
def orSQ(s t:Sym.Spec):Sym.Spec:=λxs H r=>match s xs H r with
 |some x=>some x
 |none=>t xs H r
theorem DGM{g:FuncId}{s t:Sym.Spec}(h1:AM Try.prog g s)(h2:AM Try.prog g t):AM Try.prog g (orSQ s t):=λxs H r x hx hp=>by
 unfold orSQ at hx
 split at hx
 ·rename_i y hy;cases hx;exact h1 xs H r _ hy hp
 ·exact h2 xs H r x hx hp
theorem AYB{α:Type}[Inhabited α]{l:List α}{k:Nat}(h:k<l.length):l.take (k+1)=l.take k ++ [gD l k]:=by
 rw[List.take_add_one,List.getElem?_eq_getElem h];simp[gD,List.getD_eq_getElem?_getD,h]
theorem BLO{a b A B:Int}(h1:0<=a)(h2:a<=A)(h3:0<=b)(h4:b<=B):0<=a*b/\a*b<=A*B:=
 ⟨Int.mul_nonneg h1 h3,Int.mul_le_mul h2 h4 h3 (by omega)⟩
structure NIQ where
 k:Nat
 m:Int
 deriving Inhabited
theorem CCQ:((∀{b:Bool} {p q:Prop},(bif b then p else q)=((b=true->p)/\(b=false->q)))/\(∀(p:Prop),(p/\p)=p)/\(∀(p:Prop),(True/\p)=p)/\(∀(p:Prop),(p/\True)=p)/\(∀(p:Prop),(True->p)=p)/\(∀{p:Prop} [inst:Decidable p],(decide p=true)=p)/\(∀{p:Prop} {x:Decidable p},decide p=false↔¬p))/\(∀(n:Nat),(n:Int).toNat=n)/\(∀(s:Span),Ty (TF s)=s)/\(∀(n:Int),EO (JS n)=n)/\(∀(g:Mk),dMk (eMk g)=g)/\(∀(g:Nt),dNt (eNt g)=g)/\(∀(g:Pr),dPr (ePr g)=g)/\(∀(n:Nat),0+n=n)/\(∀(a:Int),0-a=-a)/\(∀{x y:Nat},x.le y=(x<=y))/\(∀(n:Nat),n.succ=n+1)/\(∀{n m:Nat},n+1<=m↔n<m)/\(∀(b:Bool),((!b)=true)=(b=false))/\(∀(b:Bool),((!b)=false)=(b=true))/\(∀{α:Type} (n:Nat) (f:Nat->α),(KA n f).length=n)/\(∀(a b:Int),Ty (.agg [JS a,JS b])=⟨a,b⟩)/\(∀{α:Type} [Inhabited α] (l:List α),(KA l.length λi=>gD l i)=l):=⟨⟨CGX,and_self,true_and,and_true,true_implies,decide_eq_true_eq,decide_eq_false_iff_not⟩,Int.toNat_natCast,dSpan_eSpan,dInt_eInt,DTK,DXL,DUR,Nat.zero_add,Int.zero_sub,Nat.le_eq,Nat.succ_eq_add_one,Nat.add_one_le_iff,Bool.not_eq_true',Bool.not_eq_false',rng_length,CER,RI⟩
end Go.Bal
namespace Go.Bal.DLQ
open Go.Sym Go
theorem g1(s:Mk):dMk (eMk s)=s:=rfl
theorem g2(s:Nt):dNt (eNt s)=s:=rfl
theorem g3(s:Pr):dPr (ePr s)=s:=rfl
theorem h1(a b:Int):dMk (.agg [JS a,JS b])=Mk.mk a b:=rfl
theorem h2(a b c d e:Int):dNt (.agg [JS a,JS b,JS c,JS d,JS e])=Nt.mk a (Span.mk b c) (Span.mk d e):=rfl
theorem h3(a b:Int):dPr (.agg [JS a,JS b])=Pr.mk a b:=rfl
theorem k1(s:Mk):Mk.mk s.pl s.ht=s:=rfl
theorem k2(s:Nt):Nt.mk s.mi (Span.mk s.t.lo s.t.hi) (Span.mk s.s.lo s.s.hi)=s:=rfl
theorem k3(s:Pr):Pr.mk s.a s.b=s:=rfl
end Go.Bal.DLQ

namespace Go.Bal
open Go Go.Sym Go.Proofs
def MQ(n:Int):Int:=IntKind.i64.wrap n
def XA(a b c:Int):Bool:=decide (b<=a)&&decide (a<=c)
def eC(s:Span)(a b:Int):Bool:=XA s.lo a b&&XA s.hi s.lo b
def Ak(n:Nt)(m:Int):Bool:=XA n.mi 0 (MQ (m-1))&&eC n.t 0 10000000&&eC n.s (-3000000) 3000000
def DKS(x:I3Q):Prop:=BG Try.prog (ann 15 []) DCL (AL DCL) (xI3Q x) (AF []) (.bool (XA x.a x.b x.c)) [] [] []
abbrev JB:=@Eq Bool
abbrev hd1:=XA
abbrev hd5:=@cond Bool
abbrev hd6:=λ(x0 x1:Int)=>decide (x0>=x1)
abbrev hd7:=λ(x0 x1:Int)=>decide (x0<=x1)
abbrev Oz:=false
abbrev HJ a b:=hd5 a b Oz
abbrev TU a b c:=JB a (HJ b c)
attribute [go_sem] JB hd1 hd5 hd6 hd7 Oz HJ TU
theorem DPM(x:I3Q):(DKS x)=(TU (hd1 (I3Q.a x) (I3Q.b x) (I3Q.c x)) (hd6 (I3Q.a x) (I3Q.b x)) (hd7 (I3Q.a x) (I3Q.c x))):=by kernel_rfl
def BLL:=pDQ dI3Q λx=>.bool (XA x.a x.b x.c)
theorem BSB:AM Try.prog BCD BLL:=ATH xI3Q hI3Q λx _=>Mj (A:=ann 15 []) (ren:=[]) (fz:=[]) DSC (by kernel_rfl) AG (by
 show DKS x;rw[DPM]<;> delta JB hd1 hd5 hd6 hd7 Oz HJ TU;unfold XA;by_cases h:x.b<=x.a<;>simp[h])
def DMY(x:SII):Prop:=BG Try.prog (ann 20 [(BCD,BLL)]) BKJ (AL BKJ) (xSII x) (AF []) (.bool (eC x.s x.a x.b)) [] [] []
abbrev hd9:=eC
abbrev EM:=Span.lo
abbrev FL:=Span.hi
attribute [go_sem] hd9 EM FL
theorem DQC(x:SII):(DMY x)=(TU (hd9 (SII.s x) (SII.a x) (SII.b x)) (hd1 (EM (SII.s x)) (SII.a x) (SII.b x)) (hd1 (FL (SII.s x)) (EM (SII.s x)) (SII.b x))):=by kernel_rfl
def CRB:=pDQ dSII λx=>.bool (eC x.s x.a x.b)
theorem CYH:AM Try.prog A8 CRB:=ATH xSII hSII λx _=>Mj (A:=ann 20 [(BCD,BLL)]) (ren:=[]) (fz:=[]) CIQ (by kernel_rfl) (AB BSB AG) (by
 show DMY x;rw[DQC]<;> delta JB hd1 hd5 Oz hd9 EM FL HJ TU;unfold eC;cases XA x.s.lo x.a x.b<;>simp)
def CNT(x:NtI):Prop:=BG Try.prog (ann 20 [(BCD,BLL),(A8,CRB)]) CCJ (AL CCJ) (xNtI x) (AF []) (.bool (Ak x.n x.a)) [] [] []
abbrev hd15:=Ak
abbrev ZF:=Nt.mi
abbrev NE:=IntKind.i64
abbrev Kq:=@HSub.hSub Int Int Int (@instHSub Int Int.instSub)
abbrev NU:=Nt.t
abbrev XB:=Nt.s
abbrev EV a:=IntKind.wrap NE a
abbrev LI a b:=EV (Kq a b)
abbrev FA a:=LI a 1
attribute [go_sem] hd15 ZF NE Kq NU XB EV LI FA
theorem DBM(x:NtI):(CNT x)=(TU (hd15 (NtI.n x) (NtI.a x)) (HJ (hd1 (ZF (NtI.n x)) 0 (FA (NtI.a x))) (hd9 (NU (NtI.n x)) 0 10000000)) (hd9 (XB (NtI.n x)) (-3000000) 3000000)):=by kernel_rfl
def CPI:=pDQ dNtI λx=>.bool (Ak x.n x.a)
theorem CYS:AM Try.prog BZC CPI:=ATH xNtI hNtI λx _=>Mj (A:=ann 20 [(BCD,BLL),(A8,CRB)]) (ren:=[]) (fz:=[]) DBK (by kernel_rfl) (AB BSB (AB CYH AG)) (by
 show CNT x;rw[DBM]<;> delta JB hd1 hd5 Oz hd9 hd15 ZF NE Kq NU XB EV LI FA HJ TU;unfold Ak MQ;cases XA x.n.mi 0 (IntKind.i64.wrap (x.a-1))<;>cases eC x.n.t 0 10000000<;>simp)
structure SL where
 a:Span
 l:List Span
structure NS where
 k:Nat
 m:Span
 deriving Inhabited
def comM(x:SL):Span:=x.l.foldl com x.a
def C_com:Ctr:={ α:=SL,xs:=λx=>[.d (TF x.a),.d (SR x.l)],L:=λ_=>[],val:=λx=>.d (TF (comM x)),keep:=λ_=>[],pre:=λx=>[decide (x.l.length<4611686018427387904)=true] }
def DAC:List AVal->Heap->Option (SL×List (Nat×Nat)×List Nat)
 |[.d a,y],H=>match BOO y H with
  |some (l,f)=>some (⟨Ty a,l⟩,[],f)
  |none=>none
 |_,_=>none
def DLD(x:SL):Ann:={ ann 26 [] with loops:=λid=>if id=2 then some [{ α:=NS,dflt:=default,T:=λs=>⟨[(2,.bptr 201 0),(4,.bptr 202 0),(7,.d (SR x.l)),(8,.int x.l.length),(9,.int s.k)],[(201,.live (.box [.int s.m.lo,.int s.m.hi])),(202,.live (.box [.int 0,.int 0]))]⟩,inv:=λs=>s.k<=x.l.length/\s.m=(x.l.take s.k).foldl com x.a,meas:=λs=>x.l.length-s.k,first:=[(201,1000),(202,1016)] }] else none }
def DKW(x:SL):Prop:=BG Try.prog (DLD x) BRA (AL BRA) (C_com.xs x) (AF []) (C_com.val x) [] [] []
abbrev AR:=@Eq Nat
abbrev RP:=@List.length Span
abbrev Y1:=SL.l
abbrev AK:=λ(f:Nat->Prop)=>∀(x:Nat),f x
abbrev BO:=λ(p q:Prop)=>p->q
abbrev CI:=@LT.lt Nat instLTNat
abbrev AO:=@Eq Int
abbrev SH:=@gD Span instInhabitedSpan
abbrev AU:=@Nat.cast Int instNatCastInt
abbrev hd35:=NS.k
abbrev hd36:=NS.m
abbrev UH:=Int.ofNat
abbrev EA:=@LE.le Nat instLENat
abbrev hd40:=@Eq Span
abbrev hd41:=@List.foldl Span Span
abbrev hd43:=@List.take Span
abbrev DV:=@cond Prop
abbrev JD:=λ(x0 x1:Int)=>decide (x0<x1)
abbrev DJ:=@LE.le Int Int.instLEInt
abbrev DX:=@LT.lt Int Int.instLTInt
abbrev OP:=@HAdd.hAdd Int Int Int (@instHAdd Int Int.instAdd)
abbrev zZ:=OL
abbrev IS:=@HSub.hSub Nat Nat Nat (@instHSub Nat instSubNat)
abbrev EC a b c d:=BO a (DV b c d)
abbrev FF a b c d e:=EC a (JD b c) d e
abbrev CX a b c d e:=FF a (AU b) c d e
abbrev MW a b c:=And (EA a b) c
abbrev Bc a b c d e f g:=CX (MW a b c) d e f g
abbrev NA a b c d e f:=Bc a b c a d e f
abbrev FQ a b:=AO (FL a) b
abbrev EJ a b:=FQ a (FL b)
abbrev HT a b:=AO (EM a) b
abbrev EW a b:=HT a (EM b)
abbrev AH a b c:=And a (And b c)
abbrev CK a b c d:=AH a b (CI c d)
abbrev JO a b c d e:=CK a b (IS c d) e
abbrev NT a b c d e f:=JO a b c d (IS e f)
abbrev HR a b c d e:=NT a b c d c e
abbrev Fe a b c d e f g:=HR a (MW b c d) e f g
abbrev RN a b c d e:=Fe a b c d c b e
abbrev AI a:=AO a a
abbrev HE a b c:=AH a (AI b) c
abbrev EP a b c d:=And a (HE b c d)
abbrev AJ a b c d e:=AH a b (AH c d e)
abbrev xW a b c d:=AJ a b c d d
abbrev FU:=UH 0
abbrev CL:=AI FU
abbrev GV a b:=AO (AU a) b
abbrev DK a b:=EV (OP a b)
abbrev ED a:=DK a 1
abbrev GY a:=ED (AU a)
abbrev AV a b:=GV a (GY b)
abbrev Jj a:=AU (RP a)
abbrev AZ a b c:=BO (CI a b) c
abbrev BZ a b c d:=AZ a b (And c d)
abbrev Cc a b c d:=BZ a (RP b) c d
abbrev IZ a:=AI (FL a)
abbrev Mz a b:=IZ (SH a b)
abbrev HA a:=AI (EM a)
abbrev Mx a b:=HA (SH a b)
abbrev ADW a b:=Cc a b (Mx b a) (Mz b a)
abbrev QY a:=AK (λi=>ADW i a)
abbrev BI a:=AR a a
abbrev PH a:=BI (RP a)
abbrev BC a:=DJ 0 a
abbrev EU a b:=And (BC a) b
abbrev CE a b:=EU a (DX a b)
abbrev ES a b:=CE (AU a) b
abbrev DU a b:=ES a (AU b)
abbrev QB a b c d:=AH a (EA b c) d
abbrev BS a:=GV a 0
attribute [go_sem] AR RP Y1 AK BO CI AO SH AU hd35 hd36 UH EA hd40 hd41 hd43 DV JD DJ DX OP zZ IS EC FF CX MW Bc NA FQ EJ HT EW AH CK JO NT HR Fe RN AI HE EP AJ xW FU CL GV DK ED GY AV Jj AZ BZ Cc IZ Mz HA Mx ADW QY BI PH BC EU CE ES DU QB BS
theorem DQV(x:SL):(DKW x)=(And ((@Exists NS) (λi=>QB (EP (PH (Y1 x)) (QY (Y1 x)) (Jj (Y1 x)) (xW (BS (hd35 i)) (EW (hd36 i) (SL.a x)) (EJ (hd36 i) (SL.a x)) CL)) (hd35 i) (RP (Y1 x)) (hd40 (hd36 i) (hd41 com (SL.a x) (hd43 (hd35 i) (Y1 x)))))) ((λ(f:NS->Prop)=>∀(x:NS),f x) (λi=>NA (hd35 i) (RP (Y1 x)) (hd40 (hd36 i) (hd41 com (SL.a x) (hd43 (hd35 i) (Y1 x)))) (Jj (Y1 x)) (And (DU (hd35 i) (RP (Y1 x))) ((@Exists NS) (λj=>RN (EP (PH (Y1 x)) (QY (Y1 x)) (Jj (Y1 x)) (xW (AV (hd35 j) (hd35 i)) (HT (hd36 j) (zZ (EM (hd36 i)) (EM (SH (Y1 x) (hd35 i))))) (FQ (hd36 j) (Ie (FL (hd36 i)) (FL (SH (Y1 x) (hd35 i))))) CL)) (hd35 j) (RP (Y1 x)) (hd40 (hd36 j) (hd41 com (SL.a x) (hd43 (hd35 j) (Y1 x)))) (hd35 i)))) (And (EW (comM x) (hd36 i)) (EJ (comM x) (hd36 i)))))):=by kernel_rfl
theorem DVS(x:SL)(h:x.l.length<4611686018427387904):DKW x:=by
 rw[DQV]<;> delta EM FL NE AR RP Y1 AK BO CI AO SH AU hd35 hd36 UH EA hd40 hd41 hd43 DV JD DJ DX OP zZ IS AH AJ AZ EV AI BI xW DK HA BZ ED BC IZ FQ HE HT EJ EW EU GY GV CK CE MW EC AV ES FU Cc FF JO PH CX NT Mz CL Mx BS EP HR DU ADW QY Jj Bc QB NA Fe RN;try simp only[CCQ,eq_self,implies_true,forall_const]
 refine⟨⟨⟨0,x.a⟩,⟨rfl,rfl,rfl⟩,Nat.zero_le _,rfl⟩,λs ⟨h1,h2⟩=>⟨λhlt=>?_,λhge=>?_⟩⟩
 ·have hlt:s.k<x.l.length:=by omega
  refine⟨by omega,⟨s.k+1,com s.m (gD x.l s.k)⟩,⟨(FN (by omega)).symm,rfl,rfl⟩,⟨by show s.k+1<=_;omega,?_⟩,by show x.l.length-(s.k+1)<_;omega⟩
  show com s.m (gD x.l s.k)=_
  rw[AYB hlt,List.foldl_append,<-h2];rfl
 ·rw[h2,List.take_of_length_le (by omega)];exact⟨rfl,rfl⟩
theorem DFB:AM Try.prog BCB (C_com.spec DAC):=WY C_com DLD [] [] CSM (λ_=>by kernel_rfl) (λ_=>AG) (λx h=>DVS x (of_decide_eq_true h)) (λ_=>YE rfl rfl) _
end Go.Bal
