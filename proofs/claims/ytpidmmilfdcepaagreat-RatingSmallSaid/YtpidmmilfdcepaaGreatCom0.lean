/- Data, and how they read. -/
import Derived.Test.YtpidmmilfdcepaaGreatSym12
import Derived.KernelRfl
import Derived.Test.YtpidmmilfdcepaaGreatProg
set_option linter.unusedVariables false
set_option linter.unusedSimpArgs false
namespace Go.Bal
open Go Go.Sym
def gD{α:Type}[Inhabited α](l:List α)(i:Nat):α:=l.getD i default
def HA{α:Type}(n:Nat)(f:Nat->α):List α:=(List.range n).map f
@[simp] theorem rng_length {α:Type} (n:Nat) (f:Nat->α):(HA n f).length=n:=by simp[HA]
theorem DC{α:Type}[Inhabited α](n:Nat)(f:Nat->α)(i:Nat)(h:i<n):gD (HA n f) i=f i:=by
 simp[gD,HA,List.getD_eq_getElem?_getD,h]
theorem RB{α:Type}[Inhabited α](l:List α):HA l.length (λi=>gD l i)=l:=by
 apply List.ext_getElem
 ·simp
 ·intro i h1 h2
  simp[gD,HA,List.getD_eq_getElem?_getD,h2]
theorem jC{α:Type}[Inhabited α](l m:List α)(i:Nat):gD (l ++ m) i=if i<l.length then gD l i else gD m (i-l.length):=by
 simp only[gD,List.getD_eq_getElem?_getD]
 split
 ·rename_i h;rw[List.getElem?_append_left h]
 ·rename_i h;rw[List.getElem?_append_right (by omega)]
theorem BSJ{α:Type}[Inhabited α]{l:List α}{k:Nat}(h:k<l.length):l.drop k=gD l k :: l.drop (k+1):=by
 rw[List.drop_eq_getElem_cons h];simp[gD,List.getD_eq_getElem?_getD,h]
structure Span where
 lo:Int
 hi:Int
 deriving Inhabited,DecidableEq
def NY(n:Int):DVal:=.v (.int .i64 n)
def CXP(b:Bool):DVal:=.v (.bool b)
def AHZ(s:Span):DVal:=.agg [NY s.lo,NY s.hi]
def lst(k n:Nat)(g:Nat->DVal):DVal:=.list k n g false
def NC:DVal:=.list 0 0 (λ_=>default) true
def EG:DVal->Int
 | .v (.int _ n)=>n
 |_=>0
def CGC:DVal->Bool
 | .v (.bool b)=>b
 |_=>false
def ATN:DVal->Span
 | .agg [a,b]=>⟨EG a,EG b⟩
 |_=>default
def AE(f:Func):Code:=f.body.getD .skip
@[simp] theorem dInt_eInt (n:Int):EG (NY n)=n:=rfl
@[simp] theorem dSpan_eSpan (s:Span):ATN (AHZ s)=s:=rfl
theorem CBM(a b:Int):ATN (.agg [NY a,NY b])=Span.mk a b:=rfl
def ann(n:Nat)(l:List (FuncId×Sym.Spec)):Ann:={ base:=λid=>1000*(id+1),Γ:=Sym.look l,E:=[],n:=n }
def okFn(A:Ann)(fn:Func)(xs:List AVal)(L:List (Nat×AObj))(keep:List (Nat×HCell)):Bool:=
 !(fn.name == "runtime.NumGoroutine") && fn.body.isSome && Nat.beq A.n fn.ntmps && Nat.ble xs.length fn.ntmps && A.E == L.map (·.1) && nodup (keep.map (·.1))
theorem HL{n:Int}(h0:-9223372036854775808<=n)(h1:n<=9223372036854775807):IntKind.i64.wrap n=n:=by
 simp only[IntKind.wrap,IntKind.bits,IntKind.signed]
 rcases Int.lt_or_le n 0 with h | h
 ·have:n % (2 ^ 64:Int)=n+2 ^ 64:=by
   rw[<-Int.add_emod_right];exact Int.emod_eq_of_lt (by omega) (by omega)
  simp only[this]
  rw[if_pos (by simp;omega)];omega
 ·have:n % (2 ^ 64:Int)=n:=Int.emod_eq_of_lt h (by omega)
  simp only[this]
  rw[if_neg (by simp;omega)]
theorem BF{a:Nat}(h:a<9223372036854775807):IntKind.i64.wrap ((a:Int)+1)=((a+1:Nat):Int):=by
 rw[HL (by omega) (by omega)];rfl
def bE(p:Nat->Bool):Nat->Nat->Int
 |0,_=>-1
 |n+1,k=>if p k then k else bE p n (k+1)
theorem uA{p:Nat->Bool}{n k:Nat}(hk:k<n)(h:p k=true):bE p (n-k) k=k:=by
 obtain⟨m,rfl⟩:∃m,n=k+1+m:=⟨n-k-1,by omega⟩
 rw[show k+1+m-k=m+1 by omega];simp[bE,h]
theorem ALB{p:Nat->Bool}{n k:Nat}(hk:k<n)(h:p k=false):bE p (n-k) k=bE p (n-(k+1)) (k+1):=by
 obtain⟨m,rfl⟩:∃m,n=k+1+m:=⟨n-k-1,by omega⟩
 rw[show k+1+m-k=m+1 by omega,show k+1+m-(k+1)=m by omega];simp[bE,h]
theorem ABV{p:Nat->Bool}{n k:Nat}(hk:n<=k):bE p (n-k) k=-1:=by
 rw[show n-k=0 by omega];rfl
theorem D8{α:Type}[Inhabited α](l:List α)(x:α){i:Nat}(hi:i<l.length+1):gD (l ++ [x]) i=bif decide (i<l.length) then gD l i else x:=by
 rw[jC]
 by_cases h:i<l.length
 ·simp[h]
 ·have:i-l.length=0:=by omega
  simp only[h,if_false,decide_false,cond_false,this];rfl
theorem BU{α:Type}[Inhabited α]{l:List α}{k:Nat}(h:k<l.length):gD l k∈l:=by
 unfold gD;rw[List.getD_eq_getElem?_getD,List.getElem?_eq_getElem h];exact List.getElem_mem h
theorem JP{α:Type}[Inhabited α]{l:List α}{x:α}(h:x∈l):∃i,i<l.length/\gD l i=x:=by
 obtain⟨i,hi,rfl⟩:=List.getElem_of_mem h
 exact⟨i,hi,by simp[gD,List.getD_eq_getElem?_getD,hi]⟩
theorem BCC{α β:Type}[Inhabited α][Inhabited β](f:α->β){l:List α}{i:Nat}(h:i<l.length):gD (l.map f) i=f (gD l i):=by
 simp[gD,List.getD_eq_getElem?_getD,h]
def AZ(l:List Int):DVal:=lst 1 l.length λi=>NY (gD l i)
def dRow:AVal->Heap->Option (Nat×(Nat->DVal)×List Nat)
 | .d (.list _ n g _),_=>some (n,g,[])
 | .own id _ _ n,H=>match H id with
  | .live (.row _ _ g)=>some (n,g,[id])
  |_=>none
 |_,_=>none
def Xt(a:AVal)(H:Heap):Option (List Int×List Nat):=match dRow a H with
 |some (n,g,f)=>some (HA n λi=>EG (g i),f)
 |none=>none
structure One where
 u:Nat:=0
 deriving Inhabited
end Go.Bal
namespace Go.Bal.DL
open Go.Sym Go
theorem a1(n:Int):EG (NY n)=n:=rfl
theorem a2(s:Span):ATN (AHZ s)=s:=rfl
theorem b2(a b:Int):ATN (.agg [NY a,NY b])=Span.mk a b:=rfl
theorem d1(s:Span):Span.mk s.lo s.hi=s:=rfl
theorem e1(n:Nat):Int.toNat (n:Int)=n:=rfl
theorem e2(n:Nat):(Int.ofNat n).toNat=n:=rfl
end Go.Bal.DL
namespace Go.Bal
open Go Go.Sym Go.Proofs
noncomputable abbrev ZP:Program:=Go.Proofs.Tryz.prog
theorem BEB:ZP.follows .mixedOrders=true:=by kernel_rfl
theorem RA{A:Ann}(h:A.iterIn=λ_ _=>none)(h2:A.iter=λ_=>none):oU ZP A:=λgs g x e=>by
 rw[Ann.iterAt,h] at e;simp only[h2] at e;cases e
theorem WP{A:Ann}{g:FuncId}{fn:Func}{xs:List AVal}{L:List (Nat×AObj)}{val:AVal}{keep:List (Nat×HCell)}{ren:List (Nat×Nat)}{fz:List Nat}(hf:ZP.funcs[g]?=some fn)(hok:okFn A fn xs L keep=true)
  (hΓ:GOk ZP A.Γ) (h:AS ZP A fn (AE fn) xs (AB L) val keep ren fz) (hI:oU ZP A:=by exact RA rfl rfl):FnT ZP g xs (AB L) val keep:=by
 simp only[okFn,Bool.and_eq_true,Bool.not_eq_true',beq_iff_eq,IM,Nat.ble_eq,Option.isSome_iff_exists] at hok
 obtain⟨⟨⟨⟨⟨h1,code,h2⟩,h3⟩,h4⟩,h5⟩,h6⟩:=hok
 exact FnT.of_vc hΓ hI BEB hf h1 h2 ⟨h3,h4⟩ h5 h6 (by unfold AE at h;rw[h2] at h;exact h)
theorem fntS{A:Ann}{S:Nat->Bool}{g:FuncId}{fn:Func}{xs:List AVal}{L:List (Nat×AObj)}{val:AVal}{keep:List (Nat×HCell)}{ren:List (Nat×Nat)}{fz:List Nat}(hf:ZP.funcs[g]?=some fn)(hok:okFn A fn xs L keep=true)
  (hΓ:GOk ZP A.Γ) (hl:∀k,S k=true->GY ZP A S k (stdF ZP A S) (AE fn) [] (endQ ZP A fn val keep ren fz)) (h:BOJ ZP A S fn (AE fn) xs (AB L) val keep ren fz) (hI:oU ZP A:=by exact RA rfl rfl):FnT ZP g xs (AB L) val keep:=by
 simp only[okFn,Bool.and_eq_true,Bool.not_eq_true',beq_iff_eq,IM,Nat.ble_eq,Option.isSome_iff_exists] at hok
 obtain⟨⟨⟨⟨⟨h1,code,h2⟩,h3⟩,h4⟩,h5⟩,h6⟩:=hok
 refine FnT.of_vcS hΓ hI BEB hf h1 h2 ⟨h3,h4⟩ h5 h6 (S:=S) (ren:=ren) (fz:=fz) (λk h1 _=>?_) (by unfold AE at h;rw[h2] at h;exact h)
 have:=hl k h1
 unfold AE at this;rw[h2] at this;exact this
theorem BZM {A : Ann} (n0 : FuncId) (x : IterAnn) (h : A.iterIn = λ _ _ => none) (h2 : A.iter = λ g => if g = n0 then some x else none) (hΓ : GOk ZP x.ann.Γ) (hf : ZP.funcs[n0]? = some x.fn) (hname : (x.fn.name == "runtime.NumGoroutine") = false) (hb : x.fn.body = some x.code) : oU ZP A := λ gs g y e => by
 rw[Ann.iterAt,h] at e
 simp only[h2] at e
 split at e
 ·rename_i hg
  cases e;subst hg
  exact⟨hΓ,AEP hf hname hb,hf,hb⟩
 ·cases e
theorem PW(C:Ctr)(A:C.α->Ann)(ren:List (Nat×Nat))(fz:List Nat){g:FuncId}{fn:Func}(hf:ZP.funcs[g]?=some fn)(hok:∀a,okFn (A a) fn (C.xs a) (C.L a) (C.keep a)=true)(hΓ:∀a,GOk ZP (A a).Γ)
  (h:∀a,DJ (C.pre a)->AS ZP (A a) fn (AE fn) (C.xs a) (AB (C.L a)) (C.val a) (C.keep a) ren fz) (hI:∀a,oU ZP (A a)) (dec:List AVal->Heap->Option (C.α×List (Nat×Nat)×List Nat)):AH ZP g (C.spec dec):=
 Ctr.spec_ok (λa ha=>WP hf (hok a) (hΓ a) (h a ha) (hI a)) dec
theorem okT(C:Ctr){g:FuncId}(h:∀a,DJ (C.pre a)->FnT ZP g (C.xs a) (AB (C.L a)) (C.val a) (C.keep a))(dec:List AVal->Heap->Option (C.α×List (Nat×Nat)×List Nat)):AH ZP g (C.spec dec):=Ctr.spec_ok h dec
-- none: nilometer/nilometerlaw04.Made
-- none: nilometer/nilometerkit.New
-- none: nilometer/nilometerkit.Pick
-- none: (*nilometer/nilometerkit.Stream).Next
-- none: (*nilometer/nilometerkit.Stream).Within
-- none: nilometer/nilometerkit.Mixed
-- none: nilometer/nilometerlaw04.below
-- none: nilometer/nilometerlaw04.sound
-- none: nilometer/nilometerlaw04.RatingRises
-- none: nilometer/nilometerlaw04.RatingScaled
-- none: nilometer/nilometerlaw04.RatingMore
-- none: nilometer/nilometerlaw04.RatingFewest
-- none: nilometer/nilometerlaw04.RatingPassed
-- none: nilometer/nilometerlaw04.RatingReached
end Go.Bal
