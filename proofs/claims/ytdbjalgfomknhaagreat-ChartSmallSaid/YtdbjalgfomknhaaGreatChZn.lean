/- Functions by name. -/
import Derived.Test.YtdbjalgfomknhaaGreatCom0
set_option linter.unusedVariables false
set_option linter.unusedSimpArgs false
namespace Go.Bal
open Go Go.Sym Go.Proofs
abbrev oG:FuncId:=11
noncomputable abbrev AES:Func:=Tryz.f11
theorem BNH:Try.prog.funcs[oG]?=some AES:=Tryz.func11
abbrev X4:FuncId:=7
noncomputable abbrev BAO:Func:=Tryz.f7
theorem BVK:Try.prog.funcs[X4]?=some BAO:=Tryz.func7
abbrev zR:FuncId:=18
noncomputable abbrev ALP:Func:=Tryz.f18
theorem BPC:Try.prog.funcs[zR]?=some ALP:=Tryz.func18
abbrev AHJ:FuncId:=28
noncomputable abbrev AFS:Func:=Tryz.f28
theorem BMS:Try.prog.funcs[AHJ]?=some AFS:=Tryz.func28
abbrev AZW:FuncId:=13
noncomputable abbrev BBP:Func:=Tryz.f13
theorem BXN:Try.prog.funcs[AZW]?=some BBP:=Tryz.func13
abbrev BIX:FuncId:=15
noncomputable abbrev BGS:Func:=Tryz.f15
theorem CFD:Try.prog.funcs[BIX]?=some BGS:=Tryz.func15
abbrev AYQ:FuncId:=17
noncomputable abbrev BBX:Func:=Tryz.f17
theorem BWJ:Try.prog.funcs[AYQ]?=some BBX:=Tryz.func17
abbrev BHW:FuncId:=22
noncomputable abbrev BJT:Func:=Tryz.f22
theorem CGC:Try.prog.funcs[BHW]?=some BJT:=Tryz.func22
abbrev APN:FuncId:=24
noncomputable abbrev AQW:Func:=Tryz.f24
theorem BNQ:Try.prog.funcs[APN]?=some AQW:=Tryz.func24
abbrev Wi:FuncId:=26
noncomputable abbrev AYF:Func:=Tryz.f26
theorem BWU:Try.prog.funcs[Wi]?=some AYF:=Tryz.func26
abbrev ANI:FuncId:=27
noncomputable abbrev AQU:Func:=Tryz.f27
theorem BQZ:Try.prog.funcs[ANI]?=some AQU:=Tryz.func27
abbrev Wd:FuncId:=32
noncomputable abbrev BCW:Func:=Tryz.f32
theorem BWI:Try.prog.funcs[Wd]?=some BCW:=Tryz.func32
abbrev AAO:FuncId:=34
noncomputable abbrev ASW:Func:=Tryz.f34
theorem BPG:Try.prog.funcs[AAO]?=some ASW:=Tryz.func34
abbrev BDJ:FuncId:=37
noncomputable abbrev AYC:Func:=Tryz.f37
theorem BXH:Try.prog.funcs[BDJ]?=some AYC:=Tryz.func37
abbrev AZX:FuncId:=41
noncomputable abbrev AYT:Func:=Tryz.f41
theorem BWZ:Try.prog.funcs[AZX]?=some AYT:=Tryz.func41
abbrev zO:FuncId:=52
noncomputable abbrev AOS:Func:=Tryz.f52
theorem BNO:Try.prog.funcs[zO]?=some AOS:=Tryz.func52
abbrev fE:FuncId:=53
noncomputable abbrev ALM:Func:=Tryz.f53
theorem BRA:Try.prog.funcs[fE]?=some ALM:=Tryz.func53
abbrev vT:FuncId:=54
noncomputable abbrev BQC:Func:=Tryz.f54
theorem CNF:Try.prog.funcs[vT]?=some BQC:=Tryz.func54
abbrev oO:FuncId:=55
noncomputable abbrev AGA:Func:=Tryz.f55
theorem BLC:Try.prog.funcs[oO]?=some AGA:=Tryz.func55
abbrev yR:FuncId:=65
noncomputable abbrev ASU:Func:=Tryz.f65
theorem BPD:Try.prog.funcs[yR]?=some ASU:=Tryz.func65
abbrev ADF:FuncId:=66
noncomputable abbrev BJU:Func:=Tryz.f66
theorem CGZ:Try.prog.funcs[ADF]?=some BJU:=Tryz.func66
abbrev BBH:FuncId:=68
noncomputable abbrev BCU:Func:=Tryz.f68
theorem BXK:Try.prog.funcs[BBH]?=some BCU:=Tryz.func68
abbrev BGE:FuncId:=69
noncomputable abbrev BOA:Func:=Tryz.f69
theorem COG:Try.prog.funcs[BGE]?=some BOA:=Tryz.func69
abbrev BCH:FuncId:=70
noncomputable abbrev AZV:Func:=Tryz.f70
theorem BWH:Try.prog.funcs[BCH]?=some AZV:=Tryz.func70
abbrev ATO:FuncId:=78
noncomputable abbrev APZ:Func:=Tryz.f78
theorem BOS:Try.prog.funcs[ATO]?=some APZ:=Tryz.func78
abbrev AJT:FuncId:=85
noncomputable abbrev AYW:Func:=Tryz.f85
theorem BWF:Try.prog.funcs[AJT]?=some AYW:=Tryz.func85
abbrev AKJ:FuncId:=86
noncomputable abbrev BGL:Func:=Tryz.f86
theorem BZN:Try.prog.funcs[AKJ]?=some BGL:=Tryz.func86
abbrev Z7:FuncId:=109
noncomputable abbrev AND:Func:=Tryz.f109
theorem BON:Try.prog.funcs[Z7]?=some AND:=Tryz.func109
end Go.Bal

namespace Go.Bal
open Go Go.Sym
def Span.has(s:Span)(x:Int):Prop:=s.lo<=x/\x<=s.hi
def uN(a b:Span):Span:=⟨HJ a.lo b.lo,QC a.hi b.hi⟩
theorem maxI_le{a b c:Int}:HJ a b<=c↔a<=c/\b<=c:=by unfold HJ;split<;>omega
theorem le_minI{a b c:Int}:c<=QC a b↔c<=a/\c<=b:=by unfold QC;split<;>omega
theorem hZ{a b:Span}{x:Int}:(uN a b).has x↔a.has x/\b.has x:=by
 unfold Span.has uN;rw[maxI_le,le_minI];omega
theorem BDO(a b:Span):a.lo<=(uN a b).lo:=(maxI_le.1 (Int.le_refl _)).1
theorem BBR(a b:Span):(uN a b).hi<=a.hi:=(le_minI.1 (Int.le_refl _)).1
structure Tr(l s:Nat->Span)(n:Nat)(t:Nat->Int):Prop where
 at_:∀i,i<=n->(l i).has (t i)
 gap:∀g,g<n->(s g).has (t (g+1)-t g)
structure ArcOk(N s:Nat->Span)(n:Nat):Prop where
 ne:∀i,i<=n->(N i).lo<=(N i).hi
 up:∀g,g<n->∀x,(N g).has x->(N (g+1)).has (HJ (N (g+1)).lo (x+(s g).lo))/\(s g).has (HJ (N (g+1)).lo (x+(s g).lo)-x)
 down:∀g,g<n->∀y,(N (g+1)).has y->∃x,(N g).has x/\(s g).has (y-x)
theorem Tr.ext{l s:Nat->Span}{n:Nat}{t:Nat->Int}(h:Tr l s n t){y:Int}(h1:(l (n+1)).has y)(h2:(s n).has (y-t n)):Tr l s (n+1) (λk=>if k=n+1 then y else t k):=by
 refine⟨λi hi=>?_,λg hg=>?_⟩
 ·by_cases e:i=n+1
  ·subst e;simpa using h1
  ·simp only[e,if_false];exact h.at_ i (by omega)
 ·by_cases e:g=n
  ·subst e;simpa using h2
  ·have e1:¬ g+1=n+1:=by omega
   have e2:¬ g=n+1:=by omega
   simp only[e1,e2,if_false];exact h.gap g (by omega)
theorem ArcOk.some{N s:Nat->Span}{n:Nat}(h:ArcOk N s n){i:Nat}(hi:i<=n){x:Int}(hx:(N i).has x):∃t,Tr N s n t/\t i=x:=by
 have low:∀i,i<=n->∀x,(N i).has x->∃t,Tr N s i t/\t i=x:=by
  intro i
  induction i with
  |zero=>
   intro _ x hx
   refine⟨λ_=>x,⟨λk hk=>?_,λg hg=>by omega⟩,rfl⟩
   obtain rfl:k=0:=by omega
   exact hx
  |succ i ih=>
   intro hi x hx
   obtain⟨y,hy1,hy2⟩:=h.down i (by omega) x hx
   obtain⟨t,ht,rfl⟩:=ih (by omega) y hy1
   exact⟨_,ht.ext hx hy2,by simp⟩
 have high:∀d,i+d<=n->∃t,Tr N s (i+d) t/\t i=x:=by
  intro d
  induction d with
  |zero=>intro _;exact low i hi x hx
  |succ d ih=>
   intro hm
   obtain⟨t,ht,rfl⟩:=ih (by omega)
   obtain⟨h1,h2⟩:=h.up (i+d) (by omega) (t (i+d)) (ht.at_ _ (Nat.le_refl _))
   have e:¬ i=i+d+1:=by omega
   exact⟨_,ht.ext h1 h2,by simp only[e,if_false]⟩
 have:=high (n-i) (by omega)
 rwa [show i+(n-i)=n by omega] at this
def lowT(N s:Nat->Span):Nat->Int
 |0=>(N 0).lo
 |g+1=>HJ (N (g+1)).lo (lowT N s g+(s g).lo)
theorem ArcOk.low{N s:Nat->Span}{n:Nat}(h:ArcOk N s n):Tr N s n (lowT N s):=by
 have:∀i,i<=n->(N i).has (lowT N s i):=by
  intro i
  induction i with
  |zero=>intro _;exact⟨Int.le_refl _,h.ne 0 (by omega)⟩
  |succ i ih=>intro hi;exact (h.up i (by omega) _ (ih (by omega))).1
 exact⟨this,λg hg=>(h.up g hg _ (this g (by omega))).2⟩
def fw(l s:Nat->Span):Nat->Span
 |0=>l 0
 |g+1=>uN (l (g+1)) ⟨(fw l s g).lo+(s g).lo,(fw l s g).hi+(s g).hi⟩
def bk(f s:Nat->Span)(n:Nat):Nat->Span
 |0=>f n
 |j+1=>uN (f (n-(j+1))) ⟨(bk f s n j).lo-(s (n-(j+1))).hi,(bk f s n j).hi-(s (n-(j+1))).lo⟩
def nar(l s:Nat->Span)(n i:Nat):Span:=bk (fw l s) s n (n-i)
theorem CVY{l s:Nat->Span}{x:Int}:∀{i:Nat},(fw l s i).has x->(l i).has x
 |0,h=>h
 |i+1,h=>(hZ.1 h).1
theorem CFW{f s:Nat->Span}{n:Nat}{x:Int}:∀{j:Nat},(bk f s n j).has x->(f (n-j)).has x
 |0,h=>h
 |j+1,h=>(hZ.1 h).1
theorem BTQ{l s:Nat->Span}{n i:Nat}{x:Int}(hi:i<=n)(h:(nar l s n i).has x):(l i).has x:=by
 have:=CVY (CFW h)
 rwa [show n-(n-i)=i by omega] at this
theorem CTJ{l s:Nat->Span}{n i:Nat}(hi:i<=n):(l i).lo<=(nar l s n i).lo/\(nar l s n i).hi<=(l i).hi:=by
 have f1:∀i,(l i).lo<=(fw l s i).lo/\(fw l s i).hi<=(l i).hi:=λi=>by
  cases i with
  |zero=>exact⟨Int.le_refl _,Int.le_refl _⟩
  |succ i=>exact⟨BDO _ _,BBR _ _⟩
 have b1:∀j,(fw l s (n-j)).lo<=(bk (fw l s) s n j).lo/\(bk (fw l s) s n j).hi<=(fw l s (n-j)).hi:=λj=>by
  cases j with
  |zero=>exact⟨Int.le_refl _,Int.le_refl _⟩
  |succ j=>exact⟨BDO _ _,BBR _ _⟩
 have h1:=f1 i
 have h2:=b1 (n-i)
 rw[show n-(n-i)=i by omega] at h2
 unfold nar;omega
theorem Tr.fw{l s:Nat->Span}{n:Nat}{t:Nat->Int}(h:Tr l s n t):∀i,i<=n->(fw l s i).has (t i)
 |0,hi=>h.at_ 0 hi
 |i+1,hi=>by
  refine hZ.2 ⟨h.at_ _ hi,?_⟩
  have h1:=h.fw i (by omega)
  have h2:=h.gap i (by omega)
  unfold Span.has at *;simp only;omega
theorem Tr.nar{l s:Nat->Span}{n:Nat}{t:Nat->Int}(h:Tr l s n t):∀i,i<=n->(nar l s n i).has (t i):=by
 have:∀j,j<=n->(bk (Bal.fw l s) s n j).has (t (n-j)):=by
  intro j
  induction j with
  |zero=>intro _;exact h.fw n (Nat.le_refl n)
  |succ j ih=>
   intro hj
   refine hZ.2 ⟨h.fw _ (by omega),?_⟩
   have h1:=ih (by omega)
   have h2:=h.gap (n-(j+1)) (by omega)
   rw[show n-(j+1)+1=n-j by omega] at h2
   unfold Span.has at *;simp only;omega
 intro i hi
 have h:=this (n-i) (by omega)
 rwa [show n-(n-i)=i by omega] at h
theorem BSH{l s:Nat->Span}{n:Nat}(hs:∀g,g<n->(s g).lo<=(s g).hi)(hne:∀i,i<=n->(nar l s n i).lo<=(nar l s n i).hi):ArcOk (nar l s n) s n:=by
 have eb:∀g,g<n->nar l s n g=uN (fw l s g) ⟨(nar l s n (g+1)).lo-(s g).hi,(nar l s n (g+1)).hi-(s g).lo⟩:=λg hg=>by
  unfold nar
  obtain⟨j,hj⟩:∃j,n-g=j+1:=⟨n-g-1,by omega⟩
  rw[hj,show n-(g+1)=j by omega]
  show uN (fw l s (n-(j+1))) _=_
  rw[show n-(j+1)=g by omega]
 refine⟨hne,λg hg x hx=>?_,λg hg y hy=>?_⟩
 ·have h1:=hne (g+1) (by omega)
  have h2:=hs g hg
  rw[eb g hg] at hx
  have h3:=(hZ.1 hx).2
  generalize nar l s n (g+1)=N at *
  unfold Span.has HJ at *;simp only at h3;split<;>omega
 ·have h1:=hs g hg
  have h2:=hne g (by omega)
  have e:=eb g hg
  have h4:(fw l s (g+1)).has y:=by
   have:=CFW (f:=fw l s) (s:=s) (n:=n) hy
   rwa [show n-(n-(g+1))=g+1 by omega] at this
  have h5:=(hZ.1 h4).2
  have h6:(fw l s g).lo<=(fw l s g).hi:=by
   rw[e] at h2
   have:=BDO (fw l s g) ⟨(nar l s n (g+1)).lo-(s g).hi,(nar l s n (g+1)).hi-(s g).lo⟩
   have:=BBR (fw l s g) ⟨(nar l s n (g+1)).lo-(s g).hi,(nar l s n (g+1)).hi-(s g).lo⟩
   omega
  refine⟨HJ (fw l s g).lo (y-(s g).hi),?_,?_⟩
  ·rw[e];refine hZ.2 ?_
   generalize nar l s n (g+1)=N at *
   generalize fw l s g=F at *
   unfold Span.has HJ at *;simp only at h5 ⊢;split<;>omega
  ·generalize fw l s g=F at *
   unfold Span.has HJ at *;simp only at h5 ⊢;split<;>omega
theorem BJD{l s:Nat->Span}{n:Nat}(hs:∀g,g<n->(s g).lo<=(s g).hi)(hne:∀i,i<=n->(nar l s n i).lo<=(nar l s n i).hi){i:Nat}(hi:i<=n){x:Int}:(nar l s n i).has x↔∃t,Tr l s n t/\t i=x:=by
 constructor
 ·intro hx
  obtain⟨t,ht,e⟩:=(BSH hs hne).some hi hx
  exact⟨t,⟨λk hk=>BTQ hk (ht.at_ k hk),ht.gap⟩,e⟩
 ·rintro⟨t,ht,rfl⟩;exact ht.nar i hi
theorem BAX{l s:Nat->Span}{n:Nat}(hs:∀g,g<n->(s g).lo<=(s g).hi):(∀i,i<=n->(nar l s n i).lo<=(nar l s n i).hi)↔∃t,Tr l s n t:=
 ⟨λh=>let ⟨t,ht,_⟩:=(BJD hs h (Nat.zero_le n)).1 ⟨Int.le_refl _,h 0 (Nat.zero_le n)⟩;⟨t,ht⟩,λ⟨t,ht⟩ i hi=>Int.le_trans (ht.nar i hi).1 (ht.nar i hi).2⟩
theorem CLP{N s:Nat->Span}{n:Nat}(hs:∀g,g<n->(s g).lo<=(s g).hi)(hne:∀i,i<=n->(N i).lo<=(N i).hi)
  (h1:∀g,g<n->(N (g+1)).lo-(s g).hi<=(N g).lo) (h2:∀g,g<n->(N g).hi<=(N (g+1)).hi-(s g).lo) (h3:∀g,g<n->(N g).lo+(s g).lo<=(N (g+1)).lo) (h4:∀g,g<n->(N (g+1)).hi<=(N g).hi+(s g).hi):ArcOk N s n:=by
 refine⟨hne,λg hg x hx=>?_,λg hg y hy=>⟨HJ (N g).lo (y-(s g).hi),?_⟩⟩
 ·have a1:=h1 g hg;have a2:=h2 g hg;have a3:=h3 g hg;have a4:=h4 g hg;have a5:=hs g hg;have a6:=hne g (by omega);have a7:=hne (g+1) (by omega)
  unfold Span.has HJ at *;split<;>omega
 ·have a1:=h1 g hg;have a2:=h2 g hg;have a3:=h3 g hg;have a4:=h4 g hg;have a5:=hs g hg;have a6:=hne g (by omega);have a7:=hne (g+1) (by omega)
  unfold Span.has HJ at *;split<;>omega
theorem BQY{N l s:Nat->Span}{n:Nat}(hs:∀g,g<n->(s g).lo<=(s g).hi)(hN:ArcOk N s n)(hsub:∀i,i<=n->∀x,(N i).has x->(l i).has x)(hall:∀t,Tr l s n t->∀i,i<=n->(N i).has (t i)):∀i,i<=n->N i=nar l s n i:=by
 have tr:∀t,Tr N s n t->Tr l s n t:=λt ht=>⟨λi hi=>hsub i hi _ (ht.at_ i hi),ht.gap⟩
 have hne:∀i,i<=n->(nar l s n i).lo<=(nar l s n i).hi:=(BAX hs).2 ⟨_,tr _ hN.low⟩
 have iff:∀i,i<=n->∀x,(N i).has x↔(nar l s n i).has x:=λi hi x=>by
  constructor
  ·intro hx
   obtain⟨t,ht,rfl⟩:=hN.some hi hx
   exact (tr t ht).nar i hi
  ·intro hx
   obtain⟨t,ht,rfl⟩:=(BJD hs hne hi).1 hx
   exact hall t ht i hi
 intro i hi
 have h1:=iff i hi
 have a:=hN.ne i hi
 have b:=hne i hi
 generalize nar l s n i=M at *
 generalize N i=K at *
 have e1:=(h1 K.lo).1 ⟨Int.le_refl _,a⟩
 have e2:=(h1 K.hi).1 ⟨a,Int.le_refl _⟩
 have e3:=(h1 M.lo).2 ⟨Int.le_refl _,b⟩
 have e4:=(h1 M.hi).2 ⟨b,Int.le_refl _⟩
 obtain⟨k1,k2⟩:=K
 obtain⟨m1,m2⟩:=M
 unfold Span.has at *
 simp only at e1 e2 e3 e4
 congr 1<;>omega
end Go.Bal

namespace Go.Bal
open Go Go.Sym Go.Proofs
structure Mk where
 pl:Int
 ht:Int
 deriving Inhabited,DecidableEq
structure Nt where
 mi:Int
 t:Span
 s:Span
 deriving Inhabited,DecidableEq
structure Pr where
 a:Int
 b:Int
 deriving Inhabited,DecidableEq
structure Cht where
 p:Span
 base:Int
 scale:Int
 off:Int
 ms:List Mk
 ns:List Nt
 deriving Inhabited,DecidableEq
structure Tru where
 t:List Int
 s:List Int
 z:List Int
 deriving Inhabited,DecidableEq
def eMk(m:Mk):DVal:=.agg [Gk m.pl,Gk m.ht]
def eNt(n:Nt):DVal:=.agg [Gk n.mi,Gk n.t.lo,Gk n.t.hi,Gk n.s.lo,Gk n.s.hi]
def ePr(p:Pr):DVal:=.agg [Gk p.a,Gk p.b]
def dE(l:List Mk):DVal:=lst 2 l.length λi=>eMk (gD l i)
def sL(l:List Nt):DVal:=lst 5 l.length λi=>eNt (gD l i)
def aZ(l:List Pr):DVal:=lst 2 l.length λi=>ePr (gD l i)
def HA(l:List Span):DVal:=lst 2 l.length λi=>MV (gD l i)
def Nj(c:Cht):DVal:=.agg [Gk c.p.lo,Gk c.p.hi,Gk c.base,Gk c.scale,Gk c.off,dE c.ms,sL c.ns]
def eTru(t:Tru):DVal:=.agg [GB t.t,GB t.s,GB t.z]
def dMk:DVal->Mk
 | .agg [a,b]=>⟨KN a,KN b⟩
 |_=>default
def dNt:DVal->Nt
 | .agg [a,b,c,d,e]=>⟨KN a,⟨KN b,KN c⟩,⟨KN d,KN e⟩⟩
 |_=>default
def dPr:DVal->Pr
 | .agg [a,b]=>⟨KN a,KN b⟩
 |_=>default
theorem DEM(g:Mk):dMk (eMk g)=g:=rfl
theorem DEI(g:Nt):dNt (eNt g)=g:=rfl
theorem DBA(g:Pr):dPr (ePr g)=g:=rfl
def dMks(a:AVal)(H:Heap):Option (List Mk×List Nat):=match dRow a H with
 |some (n,g,f)=>some (NK n λi=>dMk (g i),f)
 |none=>none
def dNts(a:AVal)(H:Heap):Option (List Nt×List Nat):=match dRow a H with
 |some (n,g,f)=>some (NK n λi=>dNt (g i),f)
 |none=>none
def dPrs(a:AVal)(H:Heap):Option (List Pr×List Nat):=match dRow a H with
 |some (n,g,f)=>some (NK n λi=>dPr (g i),f)
 |none=>none
def rJ(a:AVal)(H:Heap):Option (List Span×List Nat):=match dRow a H with
 |some (n,g,f)=>some (NK n λi=>bV (g i),f)
 |none=>none
def tN:AVal->Heap->Option (Cht×List Nat)
 | .d (.agg [a,b,c,d,e,.list _ n f _,.list _ m g _]),_=>some (⟨⟨KN a,KN b⟩,KN c,KN d,KN e,NK n λi=>dMk (f i),NK m λi=>dNt (g i)⟩,[])
 | .agg [.d a,.d b,.d c,.d d,.d e,x,y],H=>match dMks x H,dNts y H with
  |some (l,f1),some (m,f2)=>some (⟨⟨KN a,KN b⟩,KN c,KN d,KN e,l,m⟩,f1 ++ f2)
  |_,_=>none
 |_,_=>none
def pD{α:Type}(dec:List AVal->Option α)(val:α->AVal)(pre:α->List Prop:=λ_=>[]):Sym.Spec:=AIH λxs=>match dec xs with
 |some a=>some (val a,pre a)
 |none=>none
theorem cC{α:Type}{g:FuncId}{dec:List AVal->Option α}{val:α->AVal}{pre:α->List Prop}(enc:α->List AVal)(hde:∀xs a,dec xs=some a->xs=enc a)(h:∀a,JS (pre a)->FnT Try.prog g (enc a) (AD []) (val a) []):AW Try.prog g (pD dec val pre):=AVV λxs v p hf hp=>by
 split at hf
 ·rename_i a ha
  cases hf
  rw[hde xs a ha];exact h a hp
 ·cases hf
def dI1:List AVal->Option Int
 |[.d (.v (.int .i64 a))]=>some a
 |_=>none
def xI1(a:Int):List AVal:=[.int a]
theorem hI1(xs:List AVal)(a:Int)(h:dI1 xs=some a):xs=xI1 a:=by
 unfold dI1 at h;split at h<;>cases h;rfl
structure I2 where
 a:Int
 b:Int
structure I3 where
 a:Int
 b:Int
 c:Int
def dI2:List AVal->Option I2
 |[.d (.v (.int .i64 a)),.d (.v (.int .i64 b))]=>some ⟨a,b⟩
 |_=>none
def xI2(x:I2):List AVal:=[.int x.a,.int x.b]
theorem hI2(xs:List AVal)(a:I2)(h:dI2 xs=some a):xs=xI2 a:=by
 unfold dI2 at h;split at h<;>cases h;rfl
def dI3:List AVal->Option I3
 |[.d (.v (.int .i64 a)),.d (.v (.int .i64 b)),.d (.v (.int .i64 c))]=>some ⟨a,b,c⟩
 |_=>none
def xI3(x:I3):List AVal:=[.int x.a,.int x.b,.int x.c]
theorem hI3(xs:List AVal)(a:I3)(h:dI3 xs=some a):xs=xI3 a:=by
 unfold dI3 at h;split at h<;>cases h;rfl
def dS1:List AVal->Option Span
 |[.d (.agg [.v (.int .i64 a),.v (.int .i64 b)])]=>some ⟨a,b⟩
 |_=>none
def xS1(g:Span):List AVal:=[.d (MV g)]
theorem hS1(xs:List AVal)(a:Span)(h:dS1 xs=some a):xs=xS1 a:=by
 unfold dS1 at h;split at h<;>cases h;rfl
structure SII where
 s:Span
 a:Int
 b:Int
def dSII:List AVal->Option SII
 |[.d (.agg [.v (.int .i64 p),.v (.int .i64 q)]),.d (.v (.int .i64 a)),.d (.v (.int .i64 b))]=>some ⟨⟨p,q⟩,a,b⟩
 |_=>none
def xSII(x:SII):List AVal:=[.d (MV x.s),.int x.a,.int x.b]
theorem hSII(xs:List AVal)(a:SII)(h:dSII xs=some a):xs=xSII a:=by
 unfold dSII at h;split at h<;>cases h;rfl
structure NtI where
 n:Nt
 a:Int
def dNtI:List AVal->Option NtI
 |[.d (.agg [.v (.int .i64 a),.v (.int .i64 b),.v (.int .i64 c),.v (.int .i64 d),.v (.int .i64 e)]),.d (.v (.int .i64 s))]=>some ⟨⟨a,⟨b,c⟩,⟨d,e⟩⟩,s⟩
 |_=>none
def xNtI(x:NtI):List AVal:=[.d (eNt x.n),.int x.a]
theorem hNtI(xs:List AVal)(a:NtI)(h:dNtI xs=some a):xs=xNtI a:=by
 unfold dNtI at h;split at h<;>cases h;rfl
def orS(s t:Sym.Spec):Sym.Spec:=λxs H r=>match s xs H r with
 |some x=>some x
 |none=>t xs H r
theorem CBE{g:FuncId}{s t:Sym.Spec}(h1:AW Try.prog g s)(h2:AW Try.prog g t):AW Try.prog g (orS s t):=λxs H r x hx hp=>by
 unfold orS at hx
 split at hx
 ·rename_i y hy;cases hx;exact h1 xs H r _ hy hp
 ·exact h2 xs H r x hx hp
theorem xR{α:Type}[Inhabited α]{l:List α}{k:Nat}(h:k<l.length):l.take (k+1)=l.take k ++ [gD l k]:=by
 rw[List.take_add_one,List.getElem?_eq_getElem h];simp[gD,List.getD_eq_getElem?_getD,h]
theorem mulb{a b A B:Int}(h1:0<=a)(h2:a<=A)(h3:0<=b)(h4:b<=B):0<=a*b/\a*b<=A*B:=
 ⟨Int.mul_nonneg h1 h3,Int.mul_le_mul h2 h4 h3 (by omega)⟩
structure NI where
 k:Nat
 m:Int
 deriving Inhabited
theorem CC:((∀{b:Bool} {p q:Prop},(bif b then p else q)=((b=true->p)/\(b=false->q)))/\(∀(p:Prop),(p/\p)=p)/\(∀(p:Prop),(True/\p)=p)/\(∀(p:Prop),(p/\True)=p)/\(∀(p:Prop),(True->p)=p)/\(∀{p:Prop} [inst:Decidable p],(decide p=true)=p)/\(∀{p:Prop} {x:Decidable p},decide p=false↔¬p))/\(∀(n:Nat),(n:Int).toNat=n)/\(∀(s:Span),bV (MV s)=s)/\(∀(n:Int),KN (Gk n)=n)/\(∀(g:Mk),dMk (eMk g)=g)/\(∀(g:Nt),dNt (eNt g)=g)/\(∀(g:Pr),dPr (ePr g)=g)/\(∀(n:Nat),0+n=n)/\(∀(a:Int),0-a=-a)/\(∀{x y:Nat},x.le y=(x<=y))/\(∀(n:Nat),n.succ=n+1)/\(∀{n m:Nat},n+1<=m↔n<m)/\(∀(b:Bool),((!b)=true)=(b=false))/\(∀(b:Bool),((!b)=false)=(b=true))/\(∀{α:Type} (n:Nat) (f:Nat->α),(NK n f).length=n)/\(∀(a b:Int),bV (.agg [Gk a,Gk b])=⟨a,b⟩)/\(∀{α:Type} [Inhabited α] (l:List α),(NK l.length λi=>gD l i)=l):=⟨⟨BSA,and_self,true_and,and_true,true_implies,decide_eq_true_eq,decide_eq_false_iff_not⟩,Int.toNat_natCast,dSpan_eSpan,dInt_eInt,DEM,DEI,DBA,Nat.zero_add,Int.zero_sub,Nat.le_eq,Nat.succ_eq_add_one,Nat.add_one_le_iff,Bool.not_eq_true',Bool.not_eq_false',rng_length,CCV,Li⟩
end Go.Bal
namespace Go.Bal.DL
open Go.Sym Go
theorem g1(s:Mk):dMk (eMk s)=s:=rfl
theorem g2(s:Nt):dNt (eNt s)=s:=rfl
theorem g3(s:Pr):dPr (ePr s)=s:=rfl
theorem h1(a b:Int):dMk (.agg [Gk a,Gk b])=Mk.mk a b:=rfl
theorem h2(a b c d e:Int):dNt (.agg [Gk a,Gk b,Gk c,Gk d,Gk e])=Nt.mk a (Span.mk b c) (Span.mk d e):=rfl
theorem h3(a b:Int):dPr (.agg [Gk a,Gk b])=Pr.mk a b:=rfl
theorem k1(s:Mk):Mk.mk s.pl s.ht=s:=rfl
theorem k2(s:Nt):Nt.mk s.mi (Span.mk s.t.lo s.t.hi) (Span.mk s.s.lo s.s.hi)=s:=rfl
theorem k3(s:Pr):Pr.mk s.a s.b=s:=rfl
end Go.Bal.DL

namespace Go.Bal
open Go Go.Sym Go.Proofs
def wr(n:Int):Int:=IntKind.i64.wrap n
def PN(a b c:Int):Bool:=decide (b<=a)&&decide (a<=c)
def Hx(s:Span)(a b:Int):Bool:=PN s.lo a b&&PN s.hi s.lo b
def Du(n:Nt)(m:Int):Bool:=PN n.mi 0 (wr (m-1))&&Hx n.t 0 10000000&&Hx n.s (-3000000) 3000000
def V_in(x:I3):Prop:=ES Try.prog (ann 15 []) F_in (AJ F_in) (xI3 x) (AD []) (.bool (PN x.a x.b x.c)) [] [] []
abbrev MD:=@Eq Bool
abbrev N6:=@cond Bool
abbrev tJ:=λ(x0 x1:Int)=>decide (x0>=x1)
abbrev hd7:=λ(x0 x1:Int)=>decide (x0<=x1)
abbrev Iv:=false
abbrev IB a b:=N6 a b Iv
attribute [go_sem] MD N6 tJ hd7 Iv IB
theorem DAY(x:I3):(V_in x)=(MD (PN (I3.a x) (I3.b x) (I3.c x)) (IB (tJ (I3.a x) (I3.b x)) (hd7 (I3.a x) (I3.c x)))):=by kernel_rfl
def s_in:=pD dI3 λx=>.bool (PN x.a x.b x.c)
theorem R9:AW Try.prog n_in s_in:=cC xI3 hI3 λx _=>Wk (A:=ann 15 []) (ren:=[]) (fz:=[]) DEJ (by kernel_rfl) AK (by
 show V_in x;rw[DAY]<;> delta MD N6 tJ hd7 Iv IB;unfold PN;by_cases h:x.b<=x.a<;>simp[h])
def CPM(x:SII):Prop:=ES Try.prog (ann 20 [(n_in,s_in)]) AMX (AJ AMX) (xSII x) (AD []) (.bool (Hx x.s x.a x.b)) [] [] []
abbrev hd9:=Hx
abbrev hd10:=SII.s
abbrev BH:=Span.lo
abbrev BK:=Span.hi
attribute [go_sem] hd9 hd10 BH BK
theorem CVI(x:SII):(CPM x)=(MD (hd9 (hd10 x) (SII.a x) (SII.b x)) (IB (PN (BH (hd10 x)) (SII.a x) (SII.b x)) (PN (BK (hd10 x)) (BH (hd10 x)) (SII.b x)))):=by kernel_rfl
def BUR:=pD dSII λx=>.bool (Hx x.s x.a x.b)
theorem CEV:AW Try.prog xS BUR:=cC xSII hSII λx _=>Wk (A:=ann 20 [(n_in,s_in)]) (ren:=[]) (fz:=[]) BPY (by kernel_rfl) (AA R9 AK) (by
 show CPM x;rw[CVI]<;> delta MD N6 Iv hd9 hd10 BH BK IB;unfold Hx;cases PN x.s.lo x.a x.b<;>simp)
def BSR(x:NtI):Prop:=ES Try.prog (ann 20 [(n_in,s_in),(xS,BUR)]) BGI (AJ BGI) (xNtI x) (AD []) (.bool (Du x.n x.a)) [] [] []
abbrev hd15:=Du
abbrev DY:=Nt.mi
abbrev RD:=IntKind.wrap
abbrev RU:=IntKind.i64
abbrev Mr:=@HSub.hSub Int Int Int (@instHSub Int Int.instSub)
abbrev EM:=Nt.t
abbrev EO:=Nt.s
abbrev JQ a:=RD RU a
abbrev LH a b:=JQ (Mr a b)
abbrev ZN a:=LH a 1
attribute [go_sem] hd15 DY RD RU Mr EM EO JQ LH ZN
theorem BXY(x:NtI):(BSR x)=(MD (hd15 (NtI.n x) (NtI.a x)) (IB (IB (PN (DY (NtI.n x)) 0 (ZN (NtI.a x))) (hd9 (EM (NtI.n x)) 0 10000000)) (hd9 (EO (NtI.n x)) (-3000000) 3000000))):=by kernel_rfl
def BTG:=pD dNtI λx=>.bool (Du x.n x.a)
theorem CBP:AW Try.prog BGJ BTG:=cC xNtI hNtI λx _=>Wk (A:=ann 20 [(n_in,s_in),(xS,BUR)]) (ren:=[]) (fz:=[]) CCL (by kernel_rfl) (AA R9 (AA CEV AK)) (by
 show BSR x;rw[BXY]<;> delta MD N6 Iv hd9 hd15 DY RD RU Mr EM EO JQ LH ZN IB;unfold Du wr;cases PN x.n.mi 0 (IntKind.i64.wrap (x.a-1))<;>cases Hx x.n.t 0 10000000<;>simp)
structure SL where
 a:Span
 l:List Span
structure NS where
 k:Nat
 m:Span
 deriving Inhabited
def comM(x:SL):Span:=x.l.foldl uN x.a
def C_com:Ctr:={ α:=SL,xs:=λx=>[.d (MV x.a),.d (HA x.l)],L:=λ_=>[],val:=λx=>.d (MV (comM x)),keep:=λ_=>[],pre:=λx=>[decide (x.l.length<4611686018427387904)=true] }
def BKP:List AVal->Heap->Option (SL×List (Nat×Nat)×List Nat)
 |[.d a,y],H=>match rJ y H with
  |some (l,f)=>some (⟨bV a,l⟩,[],f)
  |none=>none
 |_,_=>none
def CRN(x:SL):Ann:={ ann 26 [] with loops:=λid=>if id=2 then some [{ α:=NS,dflt:=default,T:=λs=>⟨[(2,.bptr 201 0),(4,.bptr 202 0),(7,.d (HA x.l)),(8,.int x.l.length),(9,.int s.k)],[(201,.live (.box [.int s.m.lo,.int s.m.hi])),(202,.live (.box [.int 0,.int 0]))]⟩,inv:=λs=>s.k<=x.l.length/\s.m=(x.l.take s.k).foldl uN x.a,meas:=λs=>x.l.length-s.k,first:=[(201,1000),(202,1016)] }] else none }
def CSO(x:SL):Prop:=ES Try.prog (CRN x) BCT (AJ BCT) (C_com.xs x) (AD []) (C_com.val x) [] [] []
abbrev hd25:=@Exists NS
abbrev CH:=@Eq Nat
abbrev IH:=@List.length Span
abbrev hd28:=SL.l
abbrev AB:=λ(f:Nat->Prop)=>∀(x:Nat),f x
abbrev CJ:=λ(p q:Prop)=>p->q
abbrev CE:=@LT.lt Nat instLTNat
abbrev AY:=@Eq Int
abbrev OV:=@gD Span instInhabitedSpan
abbrev CG:=@Nat.cast Int instNatCastInt
abbrev Lo:=NS.k
abbrev mR:=NS.m
abbrev MY:=Int.ofNat
abbrev CW:=@LE.le Nat instLENat
abbrev hd40:=@Eq Span
abbrev hd41:=@List.foldl Span Span
abbrev hd43:=@List.take Span
abbrev hd44:=λ(f:NS->Prop)=>∀(x:NS),f x
abbrev FV:=@cond Prop
abbrev NL:=λ(x0 x1:Int)=>decide (x0<x1)
abbrev HD:=@LE.le Int Int.instLEInt
abbrev KA:=@LT.lt Int Int.instLTInt
abbrev UI:=@HAdd.hAdd Int Int Int (@instHAdd Int Int.instAdd)
abbrev Md:=HJ
abbrev iC:=QC
abbrev IG:=@HSub.hSub Nat Nat Nat (@instHSub Nat instSubNat)
abbrev PY a b c d:=CJ a (FV b c d)
abbrev FK a b:=NL (CG a) b
abbrev JY a b:=FK a (CG b)
abbrev XL a b c d e:=PY a (JY b c) d e
abbrev BC a b:=AY (BK a) b
abbrev AQ a b:=BC a (BK b)
abbrev BD a b:=AY (BH a) b
abbrev AZ a b:=BD a (BH b)
abbrev BL a b c:=And (And a b) c
abbrev DN a b:=KA a (CG b)
abbrev EX a b c d:=BL a (DN b c) d
abbrev BX a:=HD 0 a
abbrev DX a:=BX (CG a)
abbrev HW a b c d:=EX (DX a) b c d
abbrev CL a b c:=HW a (CG a) b c
abbrev AH a b c:=And a (And b c)
abbrev DT a b c d:=AH (And a b) c d
abbrev MJ a b c:=CE (IG a b) c
abbrev JJ a b c d:=MJ a b (IG c d)
abbrev JH a b c:=JJ a b a c
abbrev FH a b c d e f:=DT a b c (JH d e f)
abbrev xI a:=IH (hd28 a)
abbrev KH a b c:=And (CW a b) c
abbrev xH a b:=hd40 (mR a) b
abbrev AI a b c d e:=AH a b (AH c d e)
abbrev lW a b c d:=AI a b c d d
abbrev AF a:=AY a a
abbrev ER a:=AF (MY a)
abbrev BP:=ER 0
abbrev gG a b:=iC (BK a) b
abbrev XB a b:=BK (OV a b)
abbrev aJ a b:=Md (BH a) b
abbrev VG a b:=BH (OV a b)
abbrev FL a b:=AY (CG a) b
abbrev EQ a b:=JQ (UI a b)
abbrev HR a:=EQ a 1
abbrev FE a:=HR (CG a)
abbrev BA a b:=FL a (FE b)
abbrev EF a:=AF (CG a)
abbrev AV a b c:=CJ (CE a b) c
abbrev BF a b c d:=AV a b (And c d)
abbrev QQ a b c d:=BF a (IH b) c d
abbrev IS a:=AQ a a
abbrev ZR a b:=IS (OV a b)
abbrev BZ a:=AF (BH a)
abbrev ZP a b:=BZ (OV a b)
abbrev Bt a b:=QQ a b (ZP b a) (ZR b a)
abbrev RE a:=AB (λi=>Bt i a)
abbrev BI a:=CH a a
abbrev SK a:=BI (IH a)
abbrev Be a b c d e f:=DT a (AH b c d) e f
abbrev CQ a:=FL a 0
attribute [go_sem] hd25 CH IH hd28 AB CJ CE AY OV CG Lo mR MY CW hd40 hd41 hd43 hd44 FV NL HD KA UI Md iC IG PY FK JY XL BC AQ BD AZ BL DN EX BX DX HW CL AH DT MJ JJ JH FH xI KH xH AI lW AF ER BP gG XB aJ VG FL EQ HR FE BA EF AV BF QQ IS ZR BZ ZP Bt RE BI SK Be CQ
theorem CWV(x:SL):(CSO x)=(And (hd25 (λi=>Be (SK (hd28 x)) (RE (hd28 x)) (EF (xI x)) (lW (CQ (Lo i)) (AZ (mR i) (SL.a x)) (AQ (mR i) (SL.a x)) BP) (CW (Lo i) (xI x)) (xH i (hd41 uN (SL.a x) (hd43 (Lo i) (hd28 x)))))) (hd44 (λi=>XL (KH (Lo i) (xI x) (xH i (hd41 uN (SL.a x) (hd43 (Lo i) (hd28 x))))) (Lo i) (xI x) (CL (Lo i) (xI x) (hd25 (λj=>FH (SK (hd28 x)) (AH (RE (hd28 x)) (EF (xI x)) (lW (BA (Lo j) (Lo i)) (BD (mR j) (aJ (mR i) (VG (hd28 x) (Lo i)))) (BC (mR j) (gG (mR i) (XB (hd28 x) (Lo i)))) BP)) (KH (Lo j) (xI x) (xH j (hd41 uN (SL.a x) (hd43 (Lo j) (hd28 x))))) (xI x) (Lo j) (Lo i)))) (And (AZ (comM x) (mR i)) (AQ (comM x) (mR i)))))):=by kernel_rfl
theorem DCK(x:SL)(h:x.l.length<4611686018427387904):CSO x:=by
 rw[CWV]<;> delta BH BK RD RU hd25 CH IH hd28 AB CJ CE AY OV CG Lo mR MY CW hd40 hd41 hd43 hd44 FV NL HD KA UI Md iC IG AH AI BC AV AF BI lW AQ BZ BF BD AZ JQ IS EQ BL ER FL HR BX DN QQ DT FE SK MJ DX EX JJ BA ZR BP HW JH ZP FK Bt EF KH CQ CL RE JY FH PY VG XB XL Be aJ xI gG xH;try simp only[CC,eq_self,implies_true,forall_const]
 refine⟨⟨⟨0,x.a⟩,⟨rfl,rfl,rfl⟩,Nat.zero_le _,rfl⟩,λs ⟨h1,h2⟩=>⟨λhlt=>?_,λhge=>?_⟩⟩
 ·have hlt:s.k<x.l.length:=by omega
  refine⟨by omega,⟨s.k+1,uN s.m (gD x.l s.k)⟩,⟨(II (by omega)).symm,rfl,rfl⟩,⟨by show s.k+1<=_;omega,?_⟩,by show x.l.length-(s.k+1)<_;omega⟩
  show uN s.m (gD x.l s.k)=_
  rw[xR hlt,List.foldl_append,<-h2];rfl
 ·rw[h2,List.take_of_length_le (by omega)];exact⟨rfl,rfl⟩
theorem BGA:AW Try.prog zQ (C_com.spec BKP):=Je C_com CRN [] [] BWE (λ_=>by kernel_rfl) (λ_=>AK) (λx h=>DCK x (of_decide_eq_true h)) (λ_=>Kp rfl rfl) _
end Go.Bal
