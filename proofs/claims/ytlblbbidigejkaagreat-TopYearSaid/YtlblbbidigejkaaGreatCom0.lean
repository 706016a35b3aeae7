/- Data, and how they read. -/
import Derived.Test.YtlblbbidigejkaaGreatSym13
import Derived.KernelRfl
import Derived.Test.YtlblbbidigejkaaGreatProg
set_option linter.unusedVariables false
set_option linter.unusedSimpArgs false
namespace Go.Bal
open Go Go.Sym
def gD{α:Type}[Inhabited α](l:List α)(i:Nat):α:=l.getD i default
def HQ{α:Type}(n:Nat)(f:Nat->α):List α:=(List.range n).map f
@[simp] theorem rng_length {α:Type} (n:Nat) (f:Nat->α):(HQ n f).length=n:=by simp[HQ]
theorem CS{α:Type}[Inhabited α](n:Nat)(f:Nat->α)(i:Nat)(h:i<n):gD (HQ n f) i=f i:=by
 simp[gD,HQ,List.getD_eq_getElem?_getD,h]
theorem GC{α:Type}[Inhabited α](l:List α):HQ l.length (λi=>gD l i)=l:=by
 apply List.ext_getElem
 ·simp
 ·intro i h1 h2
  simp[gD,HQ,List.getD_eq_getElem?_getD,h2]
theorem lM{α:Type}[Inhabited α](l m:List α)(i:Nat):gD (l ++ m) i=if i<l.length then gD l i else gD m (i-l.length):=by
 simp only[gD,List.getD_eq_getElem?_getD]
 split
 ·rename_i h;rw[List.getElem?_append_left h]
 ·rename_i h;rw[List.getElem?_append_right (by omega)]
theorem BDR{α:Type}[Inhabited α]{l:List α}{k:Nat}(h:k<l.length):l.drop k=gD l k :: l.drop (k+1):=by
 rw[List.drop_eq_getElem_cons h];simp[gD,List.getD_eq_getElem?_getD,h]
theorem CHZ{α:Type}[Inhabited α]{l m:List α}(hl:l.length=m.length)(h:∀i,i<l.length->gD l i=gD m i):l=m:=by
 apply List.ext_getElem hl
 intro i h1 h2
 have:=h i h1
 simpa[gD,List.getD_eq_getElem?_getD,h1,h2] using this
structure Span where
 lo:Int
 hi:Int
 deriving Inhabited,DecidableEq
def CF(n:Int):DVal:=.v (.int .i64 n)
def AEP(b:Bool):DVal:=.v (.bool b)
def EQ(s:Span):DVal:=.agg [CF s.lo,CF s.hi]
def lst(k n:Nat)(g:Nat->DVal):DVal:=.list k n g false
def JX:DVal:=.list 0 0 (λ_=>default) true
def DG:DVal->Int
 | .v (.int _ n)=>n
 |_=>0
def CSJ:DVal->Bool
 | .v (.bool b)=>b
 |_=>false
def VB:DVal->Span
 | .agg [a,b]=>⟨DG a,DG b⟩
 |_=>default
def AG(f:Func):Code:=f.body.getD .skip
@[simp] theorem dInt_eInt (n:Int):DG (CF n)=n:=rfl
@[simp] theorem dSpan_eSpan (s:Span):VB (EQ s)=s:=rfl
theorem ASH(a b:Int):VB (.agg [CF a,CF b])=Span.mk a b:=rfl
def ann(n:Nat)(l:List (FuncId×Sym.Spec)):Ann:={ base:=λid=>1000*(id+1),Γ:=Sym.look l,E:=[],n:=n }
def okFn(A:Ann)(fn:Func)(xs:List AVal)(L:List (Nat×AObj))(keep:List (Nat×HCell)):Bool:=
 !(fn.name == "runtime.NumGoroutine") && fn.body.isSome && Nat.beq A.n fn.ntmps && Nat.ble xs.length fn.ntmps && A.E == L.map (·.1) && nodup (keep.map (·.1))
theorem ER{n:Int}(h0:-9223372036854775808<=n)(h1:n<=9223372036854775807):IntKind.i64.wrap n=n:=by
 simp only[IntKind.wrap,IntKind.bits,IntKind.signed]
 rcases Int.lt_or_le n 0 with h | h
 ·have:n % (2 ^ 64:Int)=n+2 ^ 64:=by
   rw[<-Int.add_emod_right];exact Int.emod_eq_of_lt (by omega) (by omega)
  simp only[this]
  rw[if_pos (by simp;omega)];omega
 ·have:n % (2 ^ 64:Int)=n:=Int.emod_eq_of_lt h (by omega)
  simp only[this]
  rw[if_neg (by simp;omega)]
theorem BJ{a:Nat}(h:a<9223372036854775807):IntKind.i64.wrap ((a:Int)+1)=((a+1:Nat):Int):=by
 rw[ER (by omega) (by omega)];rfl
def TE(p:Nat->Bool):Nat->Nat->Int
 |0,_=>-1
 |n+1,k=>if p k then k else TE p n (k+1)
theorem YB{p:Nat->Bool}{n k:Nat}(hk:k<n)(h:p k=true):TE p (n-k) k=k:=by
 obtain⟨m,rfl⟩:∃m,n=k+1+m:=⟨n-k-1,by omega⟩
 rw[show k+1+m-k=m+1 by omega];simp[TE,h]
theorem Wv{p:Nat->Bool}{n k:Nat}(hk:k<n)(h:p k=false):TE p (n-k) k=TE p (n-(k+1)) (k+1):=by
 obtain⟨m,rfl⟩:∃m,n=k+1+m:=⟨n-k-1,by omega⟩
 rw[show k+1+m-k=m+1 by omega,show k+1+m-(k+1)=m by omega];simp[TE,h]
theorem Ge{p:Nat->Bool}{n k:Nat}(hk:n<=k):TE p (n-k) k=-1:=by
 rw[show n-k=0 by omega];rfl
theorem P2{α:Type}[Inhabited α](l:List α)(x:α){i:Nat}(hi:i<l.length+1):gD (l ++ [x]) i=bif decide (i<l.length) then gD l i else x:=by
 rw[lM]
 by_cases h:i<l.length
 ·simp[h]
 ·have:i-l.length=0:=by omega
  simp only[h,if_false,decide_false,cond_false,this];rfl
theorem FD{α:Type}[Inhabited α]{l:List α}{k:Nat}(h:k<l.length):gD l k∈l:=by
 unfold gD;rw[List.getD_eq_getElem?_getD,List.getElem?_eq_getElem h];exact List.getElem_mem h
theorem Hq{α:Type}[Inhabited α]{l:List α}{x:α}(h:x∈l):∃i,i<l.length/\gD l i=x:=by
 obtain⟨i,hi,rfl⟩:=List.getElem_of_mem h
 exact⟨i,hi,by simp[gD,List.getD_eq_getElem?_getD,hi]⟩
def BM(l:List Int):DVal:=lst 1 l.length λi=>CF (gD l i)
def Ti:AVal->Heap->Option (Nat×(Nat->DVal)×List Nat)
 | .d (.list _ n g _),_=>some (n,g,[])
 | .own id _ _ n,H=>match H id with
  | .live (.row _ _ g)=>some (n,g,[id])
  |_=>none
 |_,_=>none
def S6(a:AVal)(H:Heap):Option (List Int×List Nat):=match Ti a H with
 |some (n,g,f)=>some (HQ n λi=>DG (g i),f)
 |none=>none
structure One where
 u:Nat:=0
 deriving Inhabited
end Go.Bal
namespace Go.Bal.DL
open Go.Sym Go
theorem a1(n:Int):DG (CF n)=n:=rfl
theorem a2(s:Span):VB (EQ s)=s:=rfl
theorem a7(n:Int):DG (.v (.int .i64 n))=n:=rfl
theorem b2(a b:Int):VB (.agg [CF a,CF b])=Span.mk a b:=rfl
theorem d1(s:Span):Span.mk s.lo s.hi=s:=rfl
theorem e1(n:Nat):Int.toNat (n:Int)=n:=rfl
theorem e2(n:Nat):(Int.ofNat n).toNat=n:=rfl
end Go.Bal.DL
namespace Go.Bal
open Go Go.Sym Go.Proofs
noncomputable abbrev ZP:Program:=Go.Proofs.Tryz.prog
theorem BUC:ZP.follows .mixedOrders=true:=by kernel_rfl
theorem OA{A:Ann}(h:A.iterIn=λ_ _=>none)(h2:A.iter=λ_=>none):ACN ZP A:=λgs g x e=>by
 rw[Ann.iterAt,h] at e;simp only[h2] at e;cases e
theorem TF{A:Ann}{g:FuncId}{fn:Func}{xs:List AVal}{L:List (Nat×AObj)}{val:AVal}{keep:List (Nat×HCell)}{ren:List (Nat×Nat)}{fz:List Nat}(hf:ZP.funcs[g]?=some fn)(hok:okFn A fn xs L keep=true)
  (hΓ:GOk ZP A.Γ) (h:AS ZP A fn (AG fn) xs (AC L) val keep ren fz) (hI:ACN ZP A:=by exact OA rfl rfl):FnT ZP g xs (AC L) val keep:=by
 simp only[okFn,Bool.and_eq_true,Bool.not_eq_true',beq_iff_eq,LC,Nat.ble_eq,Option.isSome_iff_exists] at hok
 obtain⟨⟨⟨⟨⟨h1,code,h2⟩,h3⟩,h4⟩,h5⟩,h6⟩:=hok
 exact FnT.of_vc hΓ hI BUC hf h1 h2 ⟨h3,h4⟩ h5 h6 (by unfold AG at h;rw[h2] at h;exact h)
theorem ASE {A : Ann} (n0 : FuncId) (x : IterAnn) (h : A.iterIn = λ _ _ => none) (h2 : A.iter = λ g => if g = n0 then some x else none) (hΓ : GOk ZP x.ann.Γ) (hf : ZP.funcs[n0]? = some x.fn) (hname : (x.fn.name == "runtime.NumGoroutine") = false) (hb : x.fn.body = some x.code) : ACN ZP A := λ gs g y e => by
 rw[Ann.iterAt,h] at e
 simp only[h2] at e
 split at e
 ·rename_i hg
  cases e;subst hg
  exact⟨hΓ,AIP hf hname hb,hf,hb⟩
 ·cases e
theorem MK(C:Ctr)(A:C.α->Ann)(ren:List (Nat×Nat))(fz:List Nat){g:FuncId}{fn:Func}(hf:ZP.funcs[g]?=some fn)(hok:∀a,okFn (A a) fn (C.xs a) (C.L a) (C.keep a)=true)(hΓ:∀a,GOk ZP (A a).Γ)
  (h:∀a,BG (C.pre a)->AS ZP (A a) fn (AG fn) (C.xs a) (AC (C.L a)) (C.val a) (C.keep a) ren fz) (hI:∀a,ACN ZP (A a)) (dec:List AVal->Heap->Option (C.α×List (Nat×Nat)×List Nat)):AH ZP g (C.spec dec):=
 Ctr.spec_ok (λa ha=>TF hf (hok a) (hΓ a) (h a ha) (hI a)) dec
theorem okT(C:Ctr){g:FuncId}(h:∀a,BG (C.pre a)->FnT ZP g (C.xs a) (AC (C.L a)) (C.val a) (C.keep a))(dec:List AVal->Heap->Option (C.α×List (Nat×Nat)×List Nat)):AH ZP g (C.spec dec):=Ctr.spec_ok h dec
-- none: nilometer/nilometerlaw02.ChartMore
-- none: nilometer/nilometerlaw02.ChartPeaks
-- none: nilometer/nilometerlaw02.ChartLater
-- none: nilometer/nilometerlaw02.ChartParted
-- none: nilometer/nilometerlaw02.ChartFewest
-- none: nilometer/nilometerlaw02.ChartRead
-- none: nilometer/nilometerlaw02.ChartReached
-- none: nilometer/nilometerlaw02.ChartTimes
-- none: nilometer/nilometerlaw02.ChartStops
-- none: nilometer/nilometerlaw02.ChartStages
-- none: nilometer/nilometerlaw02.ChartSmall
-- none: nilometer/nilometerlaw02.contains
-- none: nilometer/nilometerkit.Pick
-- none: nilometer/nilometerlaw02.awake
-- none: nilometer/chart.Stages
-- none: nilometer/chart.Peak
-- none: nilometer/chart.First
-- none: nilometer/nilometerkit.Same[nilometer/api.Span]
-- none: nilometer/chart.Pairs
-- none: nilometer/chart.Agrees
-- none: nilometer/chart.Proves
-- none: nilometer/nilometerkit.Copy[int]
-- none: nilometer/chart.Late
-- none: nilometer/chart.Holds
-- none: nilometer/chart.Truths
-- none: nilometer/chart.fewest
-- none: nilometer/nilometerkit.Copy[nilometer/chart.Mark]
-- none: nilometer/nilometerkit.Copy[nilometer/chart.Note]
-- none: nilometer/nilometerkit.Copy[nilometer/chart.Pair]
-- none: nilometer/nilometerlaw02.One
-- none: nilometer/nilometerkit.Same[nilometer/chart.Pair]
-- none: nilometer/nilometerkit.Same[nilometer/chart.Mark]
-- none: nilometer/nilometerkit.Same[nilometer/chart.Note]
-- none: (*nilometer/chart.desk).within
-- none: nilometer/chart.least
-- none: (nilometer/chart.end).greatest
-- none: nilometer/chart.most
-- none: nilometer/chart.every[nilometer/chart.Pair]
-- none: (*nilometer/chart.desk).pair
-- none: (*nilometer/chart.desk).late
-- none: nilometer/chart.every[int]
-- none: nilometer/chart.Holds$1
-- none: nilometer/chart.least$1
-- none: nilometer/chart.most$1
-- none: slices.ContainsFunc[[]nilometer/chart.Pair,nilometer/chart.Pair]
-- none: nilometer/chart.every[nilometer/chart.Pair]$1
-- none: slices.ContainsFunc[[]int,int]
-- none: nilometer/chart.every[int]$1
-- none: slices.pdqsortCmpFunc[int]
-- none: math/bits.Len
-- none: slices.IndexFunc[[]nilometer/chart.Pair,nilometer/chart.Pair]
-- none: slices.IndexFunc[[]int,int]
-- none: slices.insertionSortCmpFunc[int]
-- none: slices.heapSortCmpFunc[int]
-- none: slices.breakPatternsCmpFunc[int]
-- none: slices.choosePivotCmpFunc[int]
-- none: slices.reverseRangeCmpFunc[int]
-- none: slices.partialInsertionSortCmpFunc[int]
-- none: slices.partitionEqualCmpFunc[int]
-- none: slices.partitionCmpFunc[int]
-- none: math/bits.Len32
-- none: math/bits.Len64
-- none: slices.siftDownCmpFunc[int]
-- none: slices.nextPowerOfTwo
-- none: (*slices.xorshift).Next
-- none: slices.medianAdjacentCmpFunc[int]
-- none: slices.medianCmpFunc[int]
-- none: slices.order2CmpFunc[int]
end Go.Bal
namespace Go.Bal
open Go Go.Sym
def Span.has(s:Span)(x:Int):Prop:=s.lo<=x/\x<=s.hi
def T9(a b:Span):Span:=⟨EU a.lo b.lo,IF a.hi b.hi⟩
theorem ANE{a b c:Int}:EU a b<=c↔a<=c/\b<=c:=by unfold EU;split<;>omega
theorem BDF{a b c:Int}:c<=IF a b↔c<=a/\c<=b:=by unfold IF;split<;>omega
theorem dS{a b:Span}{x:Int}:(T9 a b).has x↔a.has x/\b.has x:=by
 unfold Span.has T9;rw[ANE,BDF];omega
theorem CVY(a b:Span):a.lo<=(T9 a b).lo:=(ANE.1 (Int.le_refl _)).1
theorem CVB(a b:Span):(T9 a b).hi<=a.hi:=(BDF.1 (Int.le_refl _)).1
structure Tr(l s:Nat->Span)(n:Nat)(t:Nat->Int):Prop where
 at_:∀i,i<=n->(l i).has (t i)
 gap:∀g,g<n->(s g).has (t (g+1)-t g)
structure ArcOk(N s:Nat->Span)(n:Nat):Prop where
 ne:∀i,i<=n->(N i).lo<=(N i).hi
 up:∀g,g<n->∀x,(N g).has x->(N (g+1)).has (EU (N (g+1)).lo (x+(s g).lo))/\(s g).has (EU (N (g+1)).lo (x+(s g).lo)-x)
 down:∀g,g<n->∀y,(N (g+1)).has y->∃x,(N g).has x/\(s g).has (y-x)
theorem Tr.ext{l s:Nat->Span}{n:Nat}{t:Nat->Int}(h:Tr l s n t){y:Int}(h1:(l (n+1)).has y)(h2:(s n).has (y-t n)):Tr l s (n+1) (λk=>if k=n+1 then y else t k):=by
 refine⟨λi hi=>?_,λg hg=>?_⟩
 ·by_cases e:i=n+1
  ·subst e;simpa using h1
  ·simp only[e,if_false];exact h.at_ i (by omega)
 ·by_cases e:g=n
  ·subst e;simpa using h2
  ·have e1:¬ g+1=n+1:=by omega
   have e2:¬ g=n+1:=by omega
   simp only[e1,e2,if_false];exact h.gap g (by omega)
theorem ArcOk.some{N s:Nat->Span}{n:Nat}(h:ArcOk N s n){i:Nat}(hi:i<=n){x:Int}(hx:(N i).has x):∃t,Tr N s n t/\t i=x:=by
 have low:∀i,i<=n->∀x,(N i).has x->∃t,Tr N s i t/\t i=x:=by
  intro i
  induction i with
  |zero=>
   intro _ x hx
   refine⟨λ_=>x,⟨λk hk=>?_,λg hg=>by omega⟩,rfl⟩
   obtain rfl:k=0:=by omega
   exact hx
  |succ i ih=>
   intro hi x hx
   obtain⟨y,hy1,hy2⟩:=h.down i (by omega) x hx
   obtain⟨t,ht,rfl⟩:=ih (by omega) y hy1
   exact⟨_,ht.ext hx hy2,by simp⟩
 have high:∀d,i+d<=n->∃t,Tr N s (i+d) t/\t i=x:=by
  intro d
  induction d with
  |zero=>intro _;exact low i hi x hx
  |succ d ih=>
   intro hm
   obtain⟨t,ht,rfl⟩:=ih (by omega)
   obtain⟨h1,h2⟩:=h.up (i+d) (by omega) (t (i+d)) (ht.at_ _ (Nat.le_refl _))
   have e:¬ i=i+d+1:=by omega
   exact⟨_,ht.ext h1 h2,by simp only[e,if_false]⟩
 have:=high (n-i) (by omega)
 rwa [show i+(n-i)=n by omega] at this
def lowT(N s:Nat->Span):Nat->Int
 |0=>(N 0).lo
 |g+1=>EU (N (g+1)).lo (lowT N s g+(s g).lo)
theorem ArcOk.low{N s:Nat->Span}{n:Nat}(h:ArcOk N s n):Tr N s n (lowT N s):=by
 have:∀i,i<=n->(N i).has (lowT N s i):=by
  intro i
  induction i with
  |zero=>intro _;exact⟨Int.le_refl _,h.ne 0 (by omega)⟩
  |succ i ih=>intro hi;exact (h.up i (by omega) _ (ih (by omega))).1
 exact⟨this,λg hg=>(h.up g hg _ (this g (by omega))).2⟩
def fw(l s:Nat->Span):Nat->Span
 |0=>l 0
 |g+1=>T9 (l (g+1)) ⟨(fw l s g).lo+(s g).lo,(fw l s g).hi+(s g).hi⟩
def bk(f s:Nat->Span)(n:Nat):Nat->Span
 |0=>f n
 |j+1=>T9 (f (n-(j+1))) ⟨(bk f s n j).lo-(s (n-(j+1))).hi,(bk f s n j).hi-(s (n-(j+1))).lo⟩
def nar(l s:Nat->Span)(n i:Nat):Span:=bk (fw l s) s n (n-i)
theorem CWO{l s:Nat->Span}{x:Int}:∀{i:Nat},(fw l s i).has x->(l i).has x
 |0,h=>h
 |i+1,h=>(dS.1 h).1
theorem CKD{f s:Nat->Span}{n:Nat}{x:Int}:∀{j:Nat},(bk f s n j).has x->(f (n-j)).has x
 |0,h=>h
 |j+1,h=>(dS.1 h).1
theorem CLG{l s:Nat->Span}{n i:Nat}{x:Int}(hi:i<=n)(h:(nar l s n i).has x):(l i).has x:=by
 have:=CWO (CKD h)
 rwa [show n-(n-i)=i by omega] at this
theorem Tr.fw{l s:Nat->Span}{n:Nat}{t:Nat->Int}(h:Tr l s n t):∀i,i<=n->(fw l s i).has (t i)
 |0,hi=>h.at_ 0 hi
 |i+1,hi=>by
  refine dS.2 ⟨h.at_ _ hi,?_⟩
  have h1:=h.fw i (by omega)
  have h2:=h.gap i (by omega)
  unfold Span.has at *;simp only;omega
theorem Tr.nar{l s:Nat->Span}{n:Nat}{t:Nat->Int}(h:Tr l s n t):∀i,i<=n->(nar l s n i).has (t i):=by
 have:∀j,j<=n->(bk (Bal.fw l s) s n j).has (t (n-j)):=by
  intro j
  induction j with
  |zero=>intro _;exact h.fw n (Nat.le_refl n)
  |succ j ih=>
   intro hj
   refine dS.2 ⟨h.fw _ (by omega),?_⟩
   have h1:=ih (by omega)
   have h2:=h.gap (n-(j+1)) (by omega)
   rw[show n-(j+1)+1=n-j by omega] at h2
   unfold Span.has at *;simp only;omega
 intro i hi
 have h:=this (n-i) (by omega)
 rwa [show n-(n-i)=i by omega] at h
theorem CPW{l s:Nat->Span}{n:Nat}(hs:∀g,g<n->(s g).lo<=(s g).hi)(hne:∀i,i<=n->(nar l s n i).lo<=(nar l s n i).hi):ArcOk (nar l s n) s n:=by
 have eb:∀g,g<n->nar l s n g=T9 (fw l s g) ⟨(nar l s n (g+1)).lo-(s g).hi,(nar l s n (g+1)).hi-(s g).lo⟩:=λg hg=>by
  unfold nar
  obtain⟨j,hj⟩:∃j,n-g=j+1:=⟨n-g-1,by omega⟩
  rw[hj,show n-(g+1)=j by omega]
  show T9 (fw l s (n-(j+1))) _=_
  rw[show n-(j+1)=g by omega]
 refine⟨hne,λg hg x hx=>?_,λg hg y hy=>?_⟩
 ·have h1:=hne (g+1) (by omega)
  have h2:=hs g hg
  rw[eb g hg] at hx
  have h3:=(dS.1 hx).2
  generalize nar l s n (g+1)=N at *
  unfold Span.has EU at *;simp only at h3;split<;>omega
 ·have h1:=hs g hg
  have h2:=hne g (by omega)
  have e:=eb g hg
  have h4:(fw l s (g+1)).has y:=by
   have:=CKD (f:=fw l s) (s:=s) (n:=n) hy
   rwa [show n-(n-(g+1))=g+1 by omega] at this
  have h5:=(dS.1 h4).2
  have h6:(fw l s g).lo<=(fw l s g).hi:=by
   rw[e] at h2
   have:=CVY (fw l s g) ⟨(nar l s n (g+1)).lo-(s g).hi,(nar l s n (g+1)).hi-(s g).lo⟩
   have:=CVB (fw l s g) ⟨(nar l s n (g+1)).lo-(s g).hi,(nar l s n (g+1)).hi-(s g).lo⟩
   omega
  refine⟨EU (fw l s g).lo (y-(s g).hi),?_,?_⟩
  ·rw[e];refine dS.2 ?_
   generalize nar l s n (g+1)=N at *
   generalize fw l s g=F at *
   unfold Span.has EU at *;simp only at h5 ⊢;split<;>omega
  ·generalize fw l s g=F at *
   unfold Span.has EU at *;simp only at h5 ⊢;split<;>omega
theorem BUD{l s:Nat->Span}{n:Nat}(hs:∀g,g<n->(s g).lo<=(s g).hi)(hne:∀i,i<=n->(nar l s n i).lo<=(nar l s n i).hi){i:Nat}(hi:i<=n){x:Int}:(nar l s n i).has x↔∃t,Tr l s n t/\t i=x:=by
 constructor
 ·intro hx
  obtain⟨t,ht,e⟩:=(CPW hs hne).some hi hx
  exact⟨t,⟨λk hk=>CLG hk (ht.at_ k hk),ht.gap⟩,e⟩
 ·rintro⟨t,ht,rfl⟩;exact ht.nar i hi
theorem BEY{l s:Nat->Span}{n:Nat}(hs:∀g,g<n->(s g).lo<=(s g).hi):(∀i,i<=n->(nar l s n i).lo<=(nar l s n i).hi)↔∃t,Tr l s n t:=
 ⟨λh=>let ⟨t,ht,_⟩:=(BUD hs h (Nat.zero_le n)).1 ⟨Int.le_refl _,h 0 (Nat.zero_le n)⟩;⟨t,ht⟩,λ⟨t,ht⟩ i hi=>Int.le_trans (ht.nar i hi).1 (ht.nar i hi).2⟩
structure Mk where
 pl:Int
 ht:Int
 deriving Inhabited,DecidableEq
structure Nt where
 mi:Int
 t:Span
 s:Span
 deriving Inhabited,DecidableEq
structure Pr where
 a:Int
 b:Int
 deriving Inhabited,DecidableEq
structure Cht where
 p:Span
 base:Int
 scale:Int
 off:Int
 ms:List Mk
 ns:List Nt
 deriving Inhabited,DecidableEq
structure Tru where
 t:List Int
 s:List Int
 z:List Int
 deriving Inhabited,DecidableEq
def eMk(m:Mk):DVal:=.agg [CF m.pl,CF m.ht]
def eNt(n:Nt):DVal:=.agg [CF n.mi,CF n.t.lo,CF n.t.hi,CF n.s.lo,CF n.s.hi]
def ePr(p:Pr):DVal:=.agg [CF p.a,CF p.b]
def eMks(l:List Mk):DVal:=lst 2 l.length λi=>eMk (gD l i)
def eNts(l:List Nt):DVal:=lst 5 l.length λi=>eNt (gD l i)
def NX(l:List Span):DVal:=lst 2 l.length λi=>EQ (gD l i)
def eCht(c:Cht):DVal:=.agg [CF c.p.lo,CF c.p.hi,CF c.base,CF c.scale,CF c.off,eMks c.ms,eNts c.ns]
def eTru(t:Tru):DVal:=.agg [BM t.t,BM t.s,BM t.z]
def dMk:DVal->Mk
 | .agg [a,b]=>⟨DG a,DG b⟩
 |_=>default
def dNt:DVal->Nt
 | .agg [a,b,c,d,e]=>⟨DG a,⟨DG b,DG c⟩,⟨DG d,DG e⟩⟩
 |_=>default
def dPr:DVal->Pr
 | .agg [a,b]=>⟨DG a,DG b⟩
 |_=>default
theorem CTL(g:Mk):dMk (eMk g)=g:=rfl
theorem CUM(g:Nt):dNt (eNt g)=g:=rfl
theorem DCI(g:Pr):dPr (ePr g)=g:=rfl
def dMks(a:AVal)(H:Heap):Option (List Mk×List Nat):=match Ti a H with
 |some (n,g,f)=>some (HQ n λi=>dMk (g i),f)
 |none=>none
def dNts(a:AVal)(H:Heap):Option (List Nt×List Nat):=match Ti a H with
 |some (n,g,f)=>some (HQ n λi=>dNt (g i),f)
 |none=>none
def AQD(a:AVal)(H:Heap):Option (List Span×List Nat):=match Ti a H with
 |some (n,g,f)=>some (HQ n λi=>VB (g i),f)
 |none=>none
def CAJ:AVal->Heap->Option (Cht×List Nat)
 | .d (.agg [a,b,c,d,e,.list _ n f _,.list _ m g _]),_=>some (⟨⟨DG a,DG b⟩,DG c,DG d,DG e,HQ n λi=>dMk (f i),HQ m λi=>dNt (g i)⟩,[])
 | .agg [.d a,.d b,.d c,.d d,.d e,x,y],H=>match dMks x H,dNts y H with
  |some (l,f1),some (m,f2)=>some (⟨⟨DG a,DG b⟩,DG c,DG d,DG e,l,m⟩,f1 ++ f2)
  |_,_=>none
 |_,_=>none
def pDQ{α:Type}(dec:List AVal->Option α)(val:α->AVal)(pre:α->List Prop:=λ_=>[]):Sym.Spec:=K2 λxs=>match dec xs with
 |some a=>some (val a,pre a)
 |none=>none
theorem Y8{α:Type}{g:FuncId}{dec:List AVal->Option α}{val:α->AVal}{pre:α->List Prop}(enc:α->List AVal)(hde:∀xs a,dec xs=some a->xs=enc a)(h:∀a,BG (pre a)->FnT ZP g (enc a) (AC []) (val a) []):AH ZP g (pDQ dec val pre):=L6 λxs v p hf hp=>by
 split at hf
 ·rename_i a ha
  cases hf
  rw[hde xs a ha];exact h a hp
 ·cases hf
structure I2Q where
 a:Int
 b:Int
structure I3Q where
 a:Int
 b:Int
 c:Int
def dI3Q:List AVal->Option I3Q
 |[.d (.v (.int .i64 a)),.d (.v (.int .i64 b)),.d (.v (.int .i64 c))]=>some ⟨a,b,c⟩
 |_=>none
def xI3Q(x:I3Q):List AVal:=[.int x.a,.int x.b,.int x.c]
theorem hI3Q(xs:List AVal)(a:I3Q)(h:dI3Q xs=some a):xs=xI3Q a:=by
 unfold dI3Q at h;split at h<;>cases h;rfl
def dS1:List AVal->Option Span
 |[.d (.agg [.v (.int .i64 a),.v (.int .i64 b)])]=>some ⟨a,b⟩
 |_=>none
def xS1(g:Span):List AVal:=[.d (EQ g)]
theorem hS1(xs:List AVal)(a:Span)(h:dS1 xs=some a):xs=xS1 a:=by
 unfold dS1 at h;split at h<;>cases h;rfl
structure SII where
 s:Span
 a:Int
 b:Int
def dSII:List AVal->Option SII
 |[.d (.agg [.v (.int .i64 p),.v (.int .i64 q)]),.d (.v (.int .i64 a)),.d (.v (.int .i64 b))]=>some ⟨⟨p,q⟩,a,b⟩
 |_=>none
def xSII(x:SII):List AVal:=[.d (EQ x.s),.int x.a,.int x.b]
theorem hSII(xs:List AVal)(a:SII)(h:dSII xs=some a):xs=xSII a:=by
 unfold dSII at h;split at h<;>cases h;rfl
structure NtI where
 n:Nt
 a:Int
def dNtI:List AVal->Option NtI
 |[.d (.agg [.v (.int .i64 a),.v (.int .i64 b),.v (.int .i64 c),.v (.int .i64 d),.v (.int .i64 e)]),.d (.v (.int .i64 s))]=>some ⟨⟨a,⟨b,c⟩,⟨d,e⟩⟩,s⟩
 |_=>none
def xNtI(x:NtI):List AVal:=[.d (eNt x.n),.int x.a]
theorem hNtI(xs:List AVal)(a:NtI)(h:dNtI xs=some a):xs=xNtI a:=by
 unfold dNtI at h;split at h<;>cases h;rfl
def orSQ(s t:Sym.Spec):Sym.Spec:=λxs H r=>match s xs H r with
 |some x=>some x
 |none=>t xs H r
theorem CQH{g:FuncId}{s t:Sym.Spec}(h1:AH ZP g s)(h2:AH ZP g t):AH ZP g (orSQ s t):=λxs H r x hx hp=>by
 unfold orSQ at hx
 split at hx
 ·rename_i y hy;cases hx;exact h1 xs H r _ hy hp
 ·exact h2 xs H r x hx hp
theorem ADJ{α:Type}[Inhabited α]{l:List α}{k:Nat}(h:k<l.length):l.take (k+1)=l.take k ++ [gD l k]:=by
 rw[List.take_add_one,List.getElem?_eq_getElem h];simp[gD,List.getD_eq_getElem?_getD,h]
theorem AMA{a b A B:Int}(h1:0<=a)(h2:a<=A)(h3:0<=b)(h4:b<=B):0<=a*b/\a*b<=A*B:=
 ⟨Int.mul_nonneg h1 h3,Int.mul_le_mul h2 h4 h3 (by omega)⟩
structure NIQ where
 k:Nat
 m:Int
 deriving Inhabited
theorem CU.{u}:(∀{α:Sort u} (a:α),(a=a)=True)/\(∀(α:Sort u),(α->True)=True)/\(∀{p:Prop} (α:Sort u) [Nonempty α],(α->p)=p):=⟨eq_self,implies_true,λα _=>propext (forall_const α)⟩
theorem P3:((∀{b:Bool} {p q:Prop},(bif b then p else q)=((b=true->p)/\(b=false->q)))/\(∀(p:Prop),(p/\p)=p)/\(∀(p:Prop),(True/\p)=p)/\(∀(p:Prop),(p/\True)=p)/\(∀(p:Prop),(True->p)=p)/\(∀{p:Prop} [inst:Decidable p],(decide p=true)=p)/\(∀{p:Prop} {x:Decidable p},decide p=false↔¬p))/\(∀(n:Nat),(n:Int).toNat=n)/\(∀(s:Span),VB (EQ s)=s)/\(∀(n:Int),DG (CF n)=n)/\(∀(g:Mk),dMk (eMk g)=g)/\(∀(g:Nt),dNt (eNt g)=g)/\(∀(g:Pr),dPr (ePr g)=g)/\(∀(n:Nat),0+n=n)/\(∀(a:Int),0-a=-a)/\(∀{x y:Nat},x.le y=(x<=y))/\(∀(n:Nat),n.succ=n+1)/\(∀{n m:Nat},n+1<=m↔n<m)/\(∀(b:Bool),((!b)=true)=(b=false))/\(∀(b:Bool),((!b)=false)=(b=true))/\(∀{α:Type} (n:Nat) (f:Nat->α),(HQ n f).length=n)/\(∀(a b:Int),VB (.agg [CF a,CF b])=⟨a,b⟩)/\(∀{α:Type} [Inhabited α] (l:List α),(HQ l.length λi=>gD l i)=l):=⟨⟨BIH,and_self,true_and,and_true,true_implies,decide_eq_true_eq,decide_eq_false_iff_not⟩,Int.toNat_natCast,dSpan_eSpan,dInt_eInt,CTL,CUM,DCI,Nat.zero_add,Int.zero_sub,Nat.le_eq,Nat.succ_eq_add_one,Nat.add_one_le_iff,Bool.not_eq_true',Bool.not_eq_false',rng_length,ASH,GC⟩
end Go.Bal
namespace Go.Bal.DLQ
open Go.Sym Go
theorem g1(s:Mk):dMk (eMk s)=s:=rfl
theorem g2(s:Nt):dNt (eNt s)=s:=rfl
theorem g3(s:Pr):dPr (ePr s)=s:=rfl
theorem h1(a b:Int):dMk (.agg [CF a,CF b])=Mk.mk a b:=rfl
theorem h2(a b c d e:Int):dNt (.agg [CF a,CF b,CF c,CF d,CF e])=Nt.mk a (Span.mk b c) (Span.mk d e):=rfl
theorem h3(a b:Int):dPr (.agg [CF a,CF b])=Pr.mk a b:=rfl
theorem k1(s:Mk):Mk.mk s.pl s.ht=s:=rfl
theorem k2(s:Nt):Nt.mk s.mi (Span.mk s.t.lo s.t.hi) (Span.mk s.s.lo s.s.hi)=s:=rfl
theorem k3(s:Pr):Pr.mk s.a s.b=s:=rfl
end Go.Bal.DLQ
namespace Go.Bal
open Go Go.Sym Go.Proofs
def GM(n:Int):Int:=IntKind.i64.wrap n
def PX(a b c:Int):Bool:=decide (b<=a)&&decide (a<=c)
def Sw(s:Span)(a b:Int):Bool:=PX s.lo a b&&PX s.hi s.lo b
def SJ(n:Nt)(m:Int):Bool:=PX n.mi 0 (GM (m-1))&&Sw n.t 0 10000000&&Sw n.s (-3000000) 3000000
def CTD(x:I3Q):Prop:=AS ZP (ann 15 []) Tryz.f32 (AG Tryz.f32) (xI3Q x) (AC []) (.bool (PX x.a x.b x.c)) [] [] []
abbrev Sr:=@Eq Bool
abbrev hd1:=PX
abbrev hd5:=@cond Bool
abbrev hd6:=λ(x0 x1:Int)=>decide (x0>=x1)
abbrev hd7:=λ(x0 x1:Int)=>decide (x0<=x1)
abbrev P8:=false
abbrev IC a b:=hd5 a b P8
abbrev SQ a b c:=Sr a (IC b c)
attribute [go_sem] Sr hd1 hd5 hd6 hd7 P8 IC SQ
theorem CVS(x:I3Q):(CTD x)=(SQ (hd1 (I3Q.a x) (I3Q.b x) (I3Q.c x)) (hd6 (I3Q.a x) (I3Q.b x)) (hd7 (I3Q.a x) (I3Q.c x))):=by kernel_rfl
def ALH:=pDQ dI3Q λx=>.bool (PX x.a x.b x.c)
theorem ATA:AH ZP 32 ALH:=Y8 xI3Q hI3Q λx _=>TF (A:=ann 15 []) (ren:=[]) (fz:=[]) Tryz.func32 (by kernel_rfl) AD (by
 show CTD x;rw[CVS]<;> dsimp only[go_sem];unfold PX;by_cases h:x.b<=x.a<;>simp[h])
def CSW(x:SII):Prop:=AS ZP (ann 20 [(32,ALH)]) Tryz.f147 (AG Tryz.f147) (xSII x) (AC []) (.bool (Sw x.s x.a x.b)) [] [] []
abbrev hd9:=Sw
abbrev IP:=Span.lo
abbrev GN:=Span.hi
attribute [go_sem] hd9 IP GN
theorem CVN(x:SII):(CSW x)=(SQ (hd9 (SII.s x) (SII.a x) (SII.b x)) (hd1 (IP (SII.s x)) (SII.a x) (SII.b x)) (hd1 (GN (SII.s x)) (IP (SII.s x)) (SII.b x))):=by kernel_rfl
def BQF:=pDQ dSII λx=>.bool (Sw x.s x.a x.b)
theorem CEL:AH ZP 147 BQF:=Y8 xSII hSII λx _=>TF (A:=ann 20 [(32,ALH)]) (ren:=[]) (fz:=[]) Tryz.func147 (by kernel_rfl) (AA ATA AD) (by
 show CSW x;rw[CVN]<;> dsimp only[go_sem];unfold Sw;cases PX x.s.lo x.a x.b<;>simp)
def BSX(x:NtI):Prop:=AS ZP (ann 20 [(32,ALH),(147,BQF)]) Tryz.f150 (AG Tryz.f150) (xNtI x) (AC []) (.bool (SJ x.n x.a)) [] [] []
abbrev Xv:=Nt.mi
abbrev hd20:=IntKind.i64
abbrev hd21:=@HSub.hSub Int Int Int (@instHSub Int Int.instSub)
abbrev hd22:=Nt.t
abbrev hd23:=Nt.s
abbrev bI a:=IntKind.wrap hd20 a
abbrev CW a b:=bI (hd21 a b)
abbrev Mo a:=CW a 1
attribute [go_sem] Xv hd20 hd21 hd22 hd23 bI CW Mo
theorem CJF(x:NtI):(BSX x)=(SQ (SJ (NtI.n x) (NtI.a x)) (IC (hd1 (Xv (NtI.n x)) 0 (Mo (NtI.a x))) (hd9 (hd22 (NtI.n x)) 0 10000000)) (hd9 (hd23 (NtI.n x)) (-3000000) 3000000)):=by kernel_rfl
def BRO:=pDQ dNtI λx=>.bool (SJ x.n x.a)
theorem BYL:AH ZP 150 BRO:=Y8 xNtI hNtI λx _=>TF (A:=ann 20 [(32,ALH),(147,BQF)]) (ren:=[]) (fz:=[]) Tryz.func150 (by kernel_rfl) (AA ATA (AA CEL AD)) (by
 show BSX x;rw[CJF]<;> dsimp only[go_sem];unfold SJ GM;cases PX x.n.mi 0 (IntKind.i64.wrap (x.a-1))<;>cases Sw x.n.t 0 10000000<;>simp)
structure SL where
 a:Span
 l:List Span
structure NS where
 k:Nat
 m:Span
 deriving Inhabited
def comM(x:SL):Span:=x.l.foldl T9 x.a
def C_com:Ctr:={ α:=SL,xs:=λx=>[.d (EQ x.a),.d (NX x.l)],L:=λ_=>[],val:=λx=>.d (EQ (comM x)),keep:=λ_=>[],pre:=λx=>[decide (x.l.length<4611686018427387904)=true] }
def CIZ:List AVal->Heap->Option (SL×List (Nat×Nat)×List Nat)
 |[.d a,y],H=>match AQD y H with
  |some (l,f)=>some (⟨VB a,l⟩,[],f)
  |none=>none
 |_,_=>none
def CRY(x:SL):Ann:={ ann 26 [] with loops:=λid=>if id=2 then some [{ α:=NS,dflt:=default,T:=λs=>⟨[(2,.bptr 201 0),(4,.bptr 202 0),(7,.d (NX x.l)),(8,.int x.l.length),(9,.int s.k)],[(201,.live (.box [.int s.m.lo,.int s.m.hi])),(202,.live (.box [.int 0,.int 0]))]⟩,inv:=λs=>s.k<=x.l.length/\s.m=(x.l.take s.k).foldl T9 x.a,meas:=λs=>x.l.length-s.k,first:=[(201,1000),(202,1016)] }] else none }
def CRS(x:SL):Prop:=AS ZP (CRY x) Tryz.f66 (AG Tryz.f66) (C_com.xs x) (AC []) (C_com.val x) [] [] []
abbrev BB:=@Eq Nat
abbrev PN:=@List.length Span
abbrev AE:=λ(f:Nat->Prop)=>∀(x:Nat),f x
abbrev TD:=λ(p q:Prop)=>p->q
abbrev OB:=@LT.lt Nat instLTNat
abbrev AN:=@Eq Int
abbrev hd33:=@gD Span instInhabitedSpan
abbrev AZ:=@Nat.cast Int instNatCastInt
abbrev hd35:=NS.k
abbrev hd36:=NS.m
abbrev wM:=Int.ofNat
abbrev DC:=@LE.le Nat instLENat
abbrev hd40:=@Eq Span
abbrev hd41:=@List.foldl Span Span
abbrev hd43:=@List.take Span
abbrev YL:=@cond Prop
abbrev cT:=λ(x0 x1:Int)=>decide (x0<x1)
abbrev KM:=@LE.le Int Int.instLEInt
abbrev ZK:=@LT.lt Int Int.instLTInt
abbrev hd49:=@HAdd.hAdd Int Int Int (@instHAdd Int Int.instAdd)
abbrev hd50:=EU
abbrev hd51:=IF
abbrev KO:=@HSub.hSub Nat Nat Nat (@instHSub Nat instSubNat)
abbrev FW a b c d:=YL a (And b c) d
abbrev Km a b c d e:=TD a (FW b c d e)
abbrev RL a b:=cT (AZ a) b
abbrev AQX a b:=RL a (AZ b)
abbrev Mm a b c d e f:=Km a (AQX b c) d e f
abbrev VU a b c:=And (DC a b) c
abbrev WR a b c d e f:=Mm (VU a b c) a b d e f
abbrev fT a b:=AN (IP a) b
abbrev AQ a b c:=And a (And b c)
abbrev NT a b c d:=AQ a b (OB c d)
abbrev Kv a b c d e:=NT a b (KO c d) e
abbrev AZB a b c d e f:=Kv a b c d (KO e f)
abbrev EO a b c d e:=AZB a b c d c e
abbrev IK a b c d e:=EO a (VU b c d) c b e
abbrev Z6 a:=PN (SL.l a)
abbrev BI a:=BB a a
abbrev Wt a b:=And (BI a) b
abbrev AI a:=AN a a
abbrev LZ a b c:=AQ a (AI b) c
abbrev AGY(a:Nat->Prop) b c:=LZ (AE a) b c
abbrev Vn a(b:Nat->Prop) c:=Wt a (AGY b (AZ a) c)
abbrev HB a b c:=TD (OB a b) c
abbrev kJ a b c d:=HB a b (And c d)
abbrev BOH a b c d:=kJ a b (AI c) d
abbrev Vx a b c d:=BOH a b c (AI d)
abbrev FT a b:=GN (hd33 a b)
abbrev FY a b:=IP (hd33 a b)
abbrev oF a b c:=Vx a b (FY c a) (FT c a)
abbrev BLM a b:=oF a (PN b) b
abbrev Yo a b c:=Vn a (λi=>BLM i b) c
abbrev CB a b c d e:=AQ a b (AQ c d e)
abbrev S5 a b c d:=CB a b c d d
abbrev aZ a:=AI (wM a)
abbrev AU:=aZ 0
abbrev TO a b:=AN (AZ a) b
abbrev CP a b:=bI (hd49 a b)
abbrev JF a:=CP a 1
abbrev HC a:=JF (AZ a)
abbrev AR a b:=TO a (HC b)
abbrev IM a:=KM 0 a
abbrev Uh a b:=And (IM a) b
abbrev Uo a b:=ZK a (AZ b)
abbrev FV a b:=Uh a (Uo a b)
abbrev CL a b:=FV (AZ a) b
abbrev DK a b c d:=AQ a (DC b c) d
abbrev BC a:=TO a 0
attribute [go_sem] BB PN AE TD OB AN hd33 AZ hd35 hd36 wM DC hd40 hd41 hd43 YL cT KM ZK hd49 hd50 hd51 KO FW Km RL AQX Mm VU WR fT AQ NT Kv AZB EO IK Z6 BI Wt AI LZ AGY Vn HB kJ BOH Vx FT FY oF BLM Yo CB S5 aZ AU TO CP JF HC AR IM Uh Uo FV CL DK BC
theorem CXF(x:SL):(CRS x)=(And ((@Exists NS) (λi=>DK (Yo (Z6 x) (SL.l x) (S5 (BC (hd35 i)) (fT (hd36 i) (IP (SL.a x))) (AN (GN (hd36 i)) (GN (SL.a x))) AU)) (hd35 i) (Z6 x) (hd40 (hd36 i) (hd41 T9 (SL.a x) (hd43 (hd35 i) (SL.l x)))))) ((λ(f:NS->Prop)=>∀(x:NS),f x) (λi=>WR (hd35 i) (Z6 x) (hd40 (hd36 i) (hd41 T9 (SL.a x) (hd43 (hd35 i) (SL.l x)))) (CL (hd35 i) (Z6 x)) ((@Exists NS) (λj=>IK (Yo (Z6 x) (SL.l x) (S5 (AR (hd35 j) (hd35 i)) (fT (hd36 j) (hd50 (IP (hd36 i)) (FY (SL.l x) (hd35 i)))) (AN (GN (hd36 j)) (hd51 (GN (hd36 i)) (FT (SL.l x) (hd35 i)))) AU)) (hd35 j) (Z6 x) (hd40 (hd36 j) (hd41 T9 (SL.a x) (hd43 (hd35 j) (SL.l x)))) (hd35 i))) (And (fT (comM x) (IP (hd36 i))) (AN (GN (comM x)) (GN (hd36 i))))))):=by kernel_rfl
theorem CYB(x:SL)(h:x.l.length<4611686018427387904):CRS x:=by
 rw[CXF]<;> dsimp only[go_sem];try simp only[P3,CU]
 refine⟨⟨⟨0,x.a⟩,⟨rfl,rfl,rfl⟩,Nat.zero_le _,rfl⟩,λs ⟨h1,h2⟩=>⟨λhlt=>?_,λhge=>?_⟩⟩
 ·have hlt:s.k<x.l.length:=by omega
  refine⟨by omega,⟨s.k+1,T9 s.m (gD x.l s.k)⟩,⟨(BJ (by omega)).symm,rfl,rfl⟩,⟨by show s.k+1<=_;omega,?_⟩,by show x.l.length-(s.k+1)<_;omega⟩
  show T9 s.m (gD x.l s.k)=_
  rw[ADJ hlt,List.foldl_append,<-h2];rfl
 ·rw[h2,List.take_of_length_le (by omega)];exact⟨rfl,rfl⟩
theorem CAF:AH ZP 66 (C_com.spec CIZ):=MK C_com CRY [] [] Tryz.func66 (λ_=>by kernel_rfl) (λ_=>AD) (λx h=>CYB x (of_decide_eq_true h)) (λ_=>OA rfl rfl) _
end Go.Bal
