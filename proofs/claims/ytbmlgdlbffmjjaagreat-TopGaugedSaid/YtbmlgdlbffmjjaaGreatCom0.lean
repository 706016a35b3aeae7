/- Data, and how they read. -/
import Derived.Test.YtbmlgdlbffmjjaaGreatSym13
import Derived.KernelRfl
import Derived.Test.YtbmlgdlbffmjjaaGreatProg
set_option linter.unusedVariables false
set_option linter.unusedSimpArgs false
namespace Go.Bal
open Go Go.Sym
def gD{α:Type}[Inhabited α](l:List α)(i:Nat):α:=l.getD i default
def WA{α:Type}(n:Nat)(f:Nat->α):List α:=(List.range n).map f
@[simp] theorem rng_length {α:Type} (n:Nat) (f:Nat->α):(WA n f).length=n:=by simp[WA]
theorem BIS{α:Type}[Inhabited α](n:Nat)(f:Nat->α)(i:Nat)(h:i<n):gD (WA n f) i=f i:=by
 simp[gD,WA,List.getD_eq_getElem?_getD,h]
theorem Fj{α:Type}[Inhabited α](l:List α):WA l.length (λi=>gD l i)=l:=by
 apply List.ext_getElem
 ·simp
 ·intro i h1 h2
  simp[gD,WA,List.getD_eq_getElem?_getD,h2]
theorem wV{α:Type}[Inhabited α](l m:List α)(i:Nat):gD (l ++ m) i=if i<l.length then gD l i else gD m (i-l.length):=by
 simp only[gD,List.getD_eq_getElem?_getD]
 split
 ·rename_i h;rw[List.getElem?_append_left h]
 ·rename_i h;rw[List.getElem?_append_right (by omega)]
theorem CCQ{α:Type}[Inhabited α]{l:List α}{k:Nat}(h:k<l.length):l.drop k=gD l k :: l.drop (k+1):=by
 rw[List.drop_eq_getElem_cons h];simp[gD,List.getD_eq_getElem?_getD,h]
structure Span where
 lo:Int
 hi:Int
 deriving Inhabited,DecidableEq
def ES(n:Int):DVal:=.v (.int .i64 n)
def AWM(b:Bool):DVal:=.v (.bool b)
def UJ(s:Span):DVal:=.agg [ES s.lo,ES s.hi]
def lst(k n:Nat)(g:Nat->DVal):DVal:=.list k n g false
def gK:DVal:=.list 0 0 (λ_=>default) true
def LR:DVal->Int
 | .v (.int _ n)=>n
 |_=>0
def CRG:DVal->Bool
 | .v (.bool b)=>b
 |_=>false
def dX:DVal->Span
 | .agg [a,b]=>⟨LR a,LR b⟩
 |_=>default
def AF(f:Func):Code:=f.body.getD .skip
@[simp] theorem dInt_eInt (n:Int):LR (ES n)=n:=rfl
@[simp] theorem dSpan_eSpan (s:Span):dX (UJ s)=s:=rfl
theorem BTR(a b:Int):dX (.agg [ES a,ES b])=Span.mk a b:=rfl
def ann(n:Nat)(l:List (FuncId×Sym.Spec)):Ann:={ base:=λid=>1000*(id+1),Γ:=Sym.look l,E:=[],n:=n }
def okFn(A:Ann)(fn:Func)(xs:List AVal)(L:List (Nat×AObj))(keep:List (Nat×HCell)):Bool:=
 !(fn.name == "runtime.NumGoroutine") && fn.body.isSome && Nat.beq A.n fn.ntmps && Nat.ble xs.length fn.ntmps && A.E == L.map (·.1) && nodup (keep.map (·.1))
theorem Ab{n:Int}(h0:-9223372036854775808<=n)(h1:n<=9223372036854775807):IntKind.i64.wrap n=n:=by
 simp only[IntKind.wrap,IntKind.bits,IntKind.signed]
 rcases Int.lt_or_le n 0 with h | h
 ·have:n % (2 ^ 64:Int)=n+2 ^ 64:=by
   rw[<-Int.add_emod_right];exact Int.emod_eq_of_lt (by omega) (by omega)
  simp only[this]
  rw[if_pos (by simp;omega)];omega
 ·have:n % (2 ^ 64:Int)=n:=Int.emod_eq_of_lt h (by omega)
  simp only[this]
  rw[if_neg (by simp;omega)]
theorem GH{a:Nat}(h:a<9223372036854775807):IntKind.i64.wrap ((a:Int)+1)=((a+1:Nat):Int):=by
 rw[Ab (by omega) (by omega)];rfl
def aT(p:Nat->Bool):Nat->Nat->Int
 |0,_=>-1
 |n+1,k=>if p k then k else aT p n (k+1)
theorem mS{p:Nat->Bool}{n k:Nat}(hk:k<n)(h:p k=true):aT p (n-k) k=k:=by
 obtain⟨m,rfl⟩:∃m,n=k+1+m:=⟨n-k-1,by omega⟩
 rw[show k+1+m-k=m+1 by omega];simp[aT,h]
theorem P8{p:Nat->Bool}{n k:Nat}(hk:k<n)(h:p k=false):aT p (n-k) k=aT p (n-(k+1)) (k+1):=by
 obtain⟨m,rfl⟩:∃m,n=k+1+m:=⟨n-k-1,by omega⟩
 rw[show k+1+m-k=m+1 by omega,show k+1+m-(k+1)=m by omega];simp[aT,h]
theorem wW{p:Nat->Bool}{n k:Nat}(hk:n<=k):aT p (n-k) k=-1:=by
 rw[show n-k=0 by omega];rfl
theorem F0{α:Type}[Inhabited α](l:List α)(x:α){i:Nat}(hi:i<l.length+1):gD (l ++ [x]) i=bif decide (i<l.length) then gD l i else x:=by
 rw[wV]
 by_cases h:i<l.length
 ·simp[h]
 ·have:i-l.length=0:=by omega
  simp only[h,if_false,decide_false,cond_false,this];rfl
theorem MF{α:Type}[Inhabited α]{l:List α}{k:Nat}(h:k<l.length):gD l k∈l:=by
 unfold gD;rw[List.getD_eq_getElem?_getD,List.getElem?_eq_getElem h];exact List.getElem_mem h
theorem oX{α:Type}[Inhabited α]{l:List α}{x:α}(h:x∈l):∃i,i<l.length/\gD l i=x:=by
 obtain⟨i,hi,rfl⟩:=List.getElem_of_mem h
 exact⟨i,hi,by simp[gD,List.getD_eq_getElem?_getD,hi]⟩
def IM(l:List Int):DVal:=lst 1 l.length λi=>ES (gD l i)
def xY:AVal->Heap->Option (Nat×(Nat->DVal)×List Nat)
 | .d (.list _ n g _),_=>some (n,g,[])
 | .own id _ _ n,H=>match H id with
  | .live (.row _ _ g)=>some (n,g,[id])
  |_=>none
 |_,_=>none
def I7(a:AVal)(H:Heap):Option (List Int×List Nat):=match xY a H with
 |some (n,g,f)=>some (WA n λi=>LR (g i),f)
 |none=>none
structure One where
 u:Nat:=0
 deriving Inhabited
end Go.Bal
namespace Go.Bal.DL
open Go.Sym Go
theorem a1(n:Int):LR (ES n)=n:=rfl
theorem a2(s:Span):dX (UJ s)=s:=rfl
theorem a7(n:Int):LR (.v (.int .i64 n))=n:=rfl
theorem b2(a b:Int):dX (.agg [ES a,ES b])=Span.mk a b:=rfl
theorem d1(s:Span):Span.mk s.lo s.hi=s:=rfl
theorem e1(n:Nat):Int.toNat (n:Int)=n:=rfl
theorem e2(n:Nat):(Int.ofNat n).toNat=n:=rfl
end Go.Bal.DL

namespace Go.Proofs.Try
open Go
noncomputable abbrev prog:Program:=Go.Proofs.Tryz.prog
end Go.Proofs.Try
namespace Go.Bal
open Go Go.Sym Go.Proofs
theorem BFD:Try.prog.follows .mixedOrders=true:=by kernel_rfl
theorem RU{A:Ann}(h:A.iterIn=λ_ _=>none)(h2:A.iter=λ_=>none):Q8 Try.prog A:=λgs g x e=>by
 rw[Ann.iterAt,h] at e;simp only[h2] at e;cases e
theorem Dy{A:Ann}{g:FuncId}{fn:Func}{xs:List AVal}{L:List (Nat×AObj)}{val:AVal}{keep:List (Nat×HCell)}{ren:List (Nat×Nat)}{fz:List Nat}(hf:Try.prog.funcs[g]?=some fn)(hok:okFn A fn xs L keep=true)
  (hΓ:GOk Try.prog A.Γ) (h:AX Try.prog A fn (AF fn) xs (AC L) val keep ren fz) (hI:Q8 Try.prog A:=by exact RU rfl rfl):FnT Try.prog g xs (AC L) val keep:=by
 simp only[okFn,Bool.and_eq_true,Bool.not_eq_true',beq_iff_eq,NU,Nat.ble_eq,Option.isSome_iff_exists] at hok
 obtain⟨⟨⟨⟨⟨h1,code,h2⟩,h3⟩,h4⟩,h5⟩,h6⟩:=hok
 exact FnT.of_vc hΓ hI BFD hf h1 h2 ⟨h3,h4⟩ h5 h6 (by unfold AF at h;rw[h2] at h;exact h)
theorem K2 {A : Ann} (n0 : FuncId) (x : IterAnn) (h : A.iterIn = λ _ _ => none) (h2 : A.iter = λ g => if g = n0 then some x else none) (hΓ : GOk Try.prog x.ann.Γ) (hf : Try.prog.funcs[n0]? = some x.fn) (hname : (x.fn.name == "runtime.NumGoroutine") = false) (hb : x.fn.body = some x.code) : Q8 Try.prog A := λ gs g y e => by
 rw[Ann.iterAt,h] at e
 simp only[h2] at e
 split at e
 ·rename_i hg
  cases e;subst hg
  exact⟨hΓ,AOL hf hname hb,hf,hb⟩
 ·cases e
theorem PU(C:Ctr)(A:C.α->Ann)(ren:List (Nat×Nat))(fz:List Nat){g:FuncId}{fn:Func}(hf:Try.prog.funcs[g]?=some fn)(hok:∀a,okFn (A a) fn (C.xs a) (C.L a) (C.keep a)=true)(hΓ:∀a,GOk Try.prog (A a).Γ)
  (h:∀a,CR (C.pre a)->AX Try.prog (A a) fn (AF fn) (C.xs a) (AC (C.L a)) (C.val a) (C.keep a) ren fz) (hI:∀a,Q8 Try.prog (A a)) (dec:List AVal->Heap->Option (C.α×List (Nat×Nat)×List Nat)):AH Try.prog g (C.spec dec):=
 Ctr.spec_ok (λa ha=>Dy hf (hok a) (hΓ a) (h a ha) (hI a)) dec
theorem okT(C:Ctr){g:FuncId}(h:∀a,CR (C.pre a)->FnT Try.prog g (C.xs a) (AC (C.L a)) (C.val a) (C.keep a))(dec:List AVal->Heap->Option (C.α×List (Nat×Nat)×List Nat)):AH Try.prog g (C.spec dec):=Ctr.spec_ok h dec
end Go.Bal
