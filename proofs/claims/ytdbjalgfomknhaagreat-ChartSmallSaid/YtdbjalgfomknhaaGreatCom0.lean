/- Data, and how they read. -/
import Derived.Test.YtdbjalgfomknhaaGreatSym11
import Derived.Test.YtdbjalgfomknhaaGreatSym12
import Derived.KernelRfl
import Derived.Test.YtdbjalgfomknhaaGreatProg
set_option linter.unusedVariables false
set_option linter.unusedSimpArgs false
namespace Go.Bal
open Go Go.Sym
def gD{α:Type}[Inhabited α](l:List α)(i:Nat):α:=l.getD i default
def NK{α:Type}(n:Nat)(f:Nat->α):List α:=(List.range n).map f
@[simp] theorem rng_length {α:Type} (n:Nat) (f:Nat->α):(NK n f).length=n:=by simp[NK]
theorem FF{α:Type}[Inhabited α](n:Nat)(f:Nat->α)(i:Nat)(h:i<n):gD (NK n f) i=f i:=by
 simp[gD,NK,List.getD_eq_getElem?_getD,h]
theorem Li{α:Type}[Inhabited α](l:List α):NK l.length (λi=>gD l i)=l:=by
 apply List.ext_getElem
 ·simp
 ·intro i h1 h2
  simp[gD,NK,List.getD_eq_getElem?_getD,h2]
theorem BEJ{α:Type}[Inhabited α](l m:List α)(i:Nat):gD (l ++ m) i=if i<l.length then gD l i else gD m (i-l.length):=by
 simp only[gD,List.getD_eq_getElem?_getD]
 split
 ·rename_i h;rw[List.getElem?_append_left h]
 ·rename_i h;rw[List.getElem?_append_right (by omega)]
theorem AXJ{α:Type}[Inhabited α]{l:List α}{k:Nat}(h:k<l.length):l.drop k=gD l k :: l.drop (k+1):=by
 rw[List.drop_eq_getElem_cons h];simp[gD,List.getD_eq_getElem?_getD,h]
theorem BGD{α:Type}[Inhabited α]{l m:List α}(hl:l.length=m.length)(h:∀i,i<l.length->gD l i=gD m i):l=m:=by
 apply List.ext_getElem hl
 intro i h1 h2
 have:=h i h1
 simpa[gD,List.getD_eq_getElem?_getD,h1,h2] using this
structure Span where
 lo:Int
 hi:Int
 deriving Inhabited,DecidableEq
def Gk(n:Int):DVal:=.v (.int .i64 n)
def MV(s:Span):DVal:=.agg [Gk s.lo,Gk s.hi]
def lst(k n:Nat)(g:Nat->DVal):DVal:=.list k n g false
def Ej:DVal:=.list 0 0 (λ_=>default) true
def KN:DVal->Int
 | .v (.int _ n)=>n
 |_=>0
def DCJ:DVal->Bool
 | .v (.bool b)=>b
 |_=>false
def bV:DVal->Span
 | .agg [a,b]=>⟨KN a,KN b⟩
 |_=>default
def AJ(f:Func):Code:=f.body.getD .skip
@[simp] theorem dInt_eInt (n:Int):KN (Gk n)=n:=rfl
@[simp] theorem dSpan_eSpan (s:Span):bV (MV s)=s:=rfl
theorem CCV(a b:Int):bV (.agg [Gk a,Gk b])=Span.mk a b:=rfl
def ann(n:Nat)(l:List (FuncId×Sym.Spec)):Ann:={ base:=λid=>1000*(id+1),Γ:=Sym.look l,E:=[],n:=n }
def okFn(A:Ann)(fn:Func)(xs:List AVal)(L:List (Nat×AObj))(keep:List (Nat×HCell)):Bool:=
 !(fn.name == "runtime.NumGoroutine") && fn.body.isSome && Nat.beq A.n fn.ntmps && Nat.ble xs.length fn.ntmps && A.E == L.map (·.1) && nodup (keep.map (·.1))
theorem CVG{x y:DVal}(h:SG x y):cG (λi=>i) (λi=>(XH [] i).isSome) [.d x] [.d y]:=⟨h,trivial⟩
theorem Ap{n:Int}(h0:-9223372036854775808<=n)(h1:n<=9223372036854775807):IntKind.i64.wrap n=n:=by
 simp only[IntKind.wrap,IntKind.bits,IntKind.signed]
 rcases Int.lt_or_le n 0 with h | h
 ·have:n % (2 ^ 64:Int)=n+2 ^ 64:=by
   rw[<-Int.add_emod_right];exact Int.emod_eq_of_lt (by omega) (by omega)
  simp only[this]
  rw[if_pos (by simp;omega)];omega
 ·have:n % (2 ^ 64:Int)=n:=Int.emod_eq_of_lt h (by omega)
  simp only[this]
  rw[if_neg (by simp;omega)]
theorem II{a:Nat}(h:a<9223372036854775807):IntKind.i64.wrap ((a:Int)+1)=((a+1:Nat):Int):=by
 rw[Ap (by omega) (by omega)];rfl
def sV(p:Nat->Bool):Nat->Nat->Int
 |0,_=>-1
 |n+1,k=>if p k then k else sV p n (k+1)
theorem xZ{p:Nat->Bool}{n k:Nat}(hk:k<n)(h:p k=true):sV p (n-k) k=k:=by
 obtain⟨m,rfl⟩:∃m,n=k+1+m:=⟨n-k-1,by omega⟩
 rw[show k+1+m-k=m+1 by omega];simp[sV,h]
theorem APH{p:Nat->Bool}{n k:Nat}(hk:k<n)(h:p k=false):sV p (n-k) k=sV p (n-(k+1)) (k+1):=by
 obtain⟨m,rfl⟩:∃m,n=k+1+m:=⟨n-k-1,by omega⟩
 rw[show k+1+m-k=m+1 by omega,show k+1+m-(k+1)=m by omega];simp[sV,h]
theorem AAN{p:Nat->Bool}{n k:Nat}(hk:n<=k):sV p (n-k) k=-1:=by
 rw[show n-k=0 by omega];rfl
theorem OH{α:Type}[Inhabited α]{l:List α}{k:Nat}(h:k<l.length):gD l k∈l:=by
 unfold gD;rw[List.getD_eq_getElem?_getD,List.getElem?_eq_getElem h];exact List.getElem_mem h
theorem Df{α:Type}[Inhabited α]{l:List α}{x:α}(h:x∈l):∃i,i<l.length/\gD l i=x:=by
 obtain⟨i,hi,rfl⟩:=List.getElem_of_mem h
 exact⟨i,hi,by simp[gD,List.getD_eq_getElem?_getD,hi]⟩
theorem BOQ{α β:Type}[Inhabited α][Inhabited β](f:α->β){l:List α}{i:Nat}(h:i<l.length):gD (l.map f) i=f (gD l i):=by
 simp[gD,List.getD_eq_getElem?_getD,h]
def GB(l:List Int):DVal:=lst 1 l.length λi=>Gk (gD l i)
def dRow:AVal->Heap->Option (Nat×(Nat->DVal)×List Nat)
 | .d (.list _ n g _),_=>some (n,g,[])
 | .own id _ _ n,H=>match H id with
  | .live (.row _ _ g)=>some (n,g,[id])
  |_=>none
 |_,_=>none
def tL(a:AVal)(H:Heap):Option (List Int×List Nat):=match dRow a H with
 |some (n,g,f)=>some (NK n λi=>KN (g i),f)
 |none=>none
structure One where
 u:Nat:=0
 deriving Inhabited
end Go.Bal
namespace Go.Bal.DL
open Go.Sym Go
theorem a1(n:Int):KN (Gk n)=n:=rfl
theorem a2(s:Span):bV (MV s)=s:=rfl
theorem a7(n:Int):KN (.v (.int .i64 n))=n:=rfl
theorem b2(a b:Int):bV (.agg [Gk a,Gk b])=Span.mk a b:=rfl
theorem d1(s:Span):Span.mk s.lo s.hi=s:=rfl
theorem e1(n:Nat):Int.toNat (n:Int)=n:=rfl
theorem e2(n:Nat):(Int.ofNat n).toNat=n:=rfl
end Go.Bal.DL

namespace Go.Proofs.Try
open Go
noncomputable abbrev prog:Program:=Go.Proofs.Tryz.prog
end Go.Proofs.Try
namespace Go.Bal
open Go Go.Sym Go.Proofs
theorem BNE:Try.prog.follows .mixedOrders=true:=by kernel_rfl
theorem Kp{A:Ann}(h:A.iterIn=λ_ _=>none)(h2:A.iter=λ_=>none):F1 Try.prog A:=λgs g x e=>by
 rw[Ann.iterAt,h] at e;simp only[h2] at e;cases e
theorem Wk{A:Ann}{g:FuncId}{fn:Func}{xs:List AVal}{L:List (Nat×AObj)}{val:AVal}{keep:List (Nat×HCell)}{ren:List (Nat×Nat)}{fz:List Nat}(hf:Try.prog.funcs[g]?=some fn)(hok:okFn A fn xs L keep=true)
  (hΓ:GOk Try.prog A.Γ) (h:ES Try.prog A fn (AJ fn) xs (AD L) val keep ren fz) (hI:F1 Try.prog A:=by exact Kp rfl rfl):FnT Try.prog g xs (AD L) val keep:=by
 simp only[okFn,Bool.and_eq_true,Bool.not_eq_true',beq_iff_eq,VN,Nat.ble_eq,Option.isSome_iff_exists] at hok
 obtain⟨⟨⟨⟨⟨h1,code,h2⟩,h3⟩,h4⟩,h5⟩,h6⟩:=hok
 exact FnT.of_vc hΓ hI BNE hf h1 h2 ⟨h3,h4⟩ h5 h6 (by unfold AJ at h;rw[h2] at h;exact h)
theorem fntS{A:Ann}{S:Nat->Bool}{g:FuncId}{fn:Func}{xs:List AVal}{L:List (Nat×AObj)}{val:AVal}{keep:List (Nat×HCell)}{ren:List (Nat×Nat)}{fz:List Nat}(hf:Try.prog.funcs[g]?=some fn)(hok:okFn A fn xs L keep=true)
  (hΓ:GOk Try.prog A.Γ) (hl:∀k,S k=true->NT Try.prog A S k (stdF Try.prog A S) (AJ fn) [] (endQ Try.prog A fn val keep ren fz)) (h:BTC Try.prog A S fn (AJ fn) xs (AD L) val keep ren fz) (hI:F1 Try.prog A:=by exact Kp rfl rfl):FnT Try.prog g xs (AD L) val keep:=by
 simp only[okFn,Bool.and_eq_true,Bool.not_eq_true',beq_iff_eq,VN,Nat.ble_eq,Option.isSome_iff_exists] at hok
 obtain⟨⟨⟨⟨⟨h1,code,h2⟩,h3⟩,h4⟩,h5⟩,h6⟩:=hok
 refine FnT.of_vcS hΓ hI BNE hf h1 h2 ⟨h3,h4⟩ h5 h6 (S:=S) (ren:=ren) (fz:=fz) (λk h1 _=>?_) (by unfold AJ at h;rw[h2] at h;exact h)
 have:=hl k h1
 unfold AJ at this;rw[h2] at this;exact this
theorem BMJ {A : Ann} (n0 : FuncId) (x : IterAnn) (h : A.iterIn = λ _ _ => none) (h2 : A.iter = λ g => if g = n0 then some x else none) (hΓ : GOk Try.prog x.ann.Γ) (hf : Try.prog.funcs[n0]? = some x.fn) (hname : (x.fn.name == "runtime.NumGoroutine") = false) (hb : x.fn.body = some x.code) : F1 Try.prog A := λ gs g y e => by
 rw[Ann.iterAt,h] at e
 simp only[h2] at e
 split at e
 ·rename_i hg
  cases e;subst hg
  exact⟨hΓ,ATW hf hname hb,hf,hb⟩
 ·cases e
theorem Je(C:Ctr)(A:C.α->Ann)(ren:List (Nat×Nat))(fz:List Nat){g:FuncId}{fn:Func}(hf:Try.prog.funcs[g]?=some fn)(hok:∀a,okFn (A a) fn (C.xs a) (C.L a) (C.keep a)=true)(hΓ:∀a,GOk Try.prog (A a).Γ)
  (h:∀a,JS (C.pre a)->ES Try.prog (A a) fn (AJ fn) (C.xs a) (AD (C.L a)) (C.val a) (C.keep a) ren fz) (hI:∀a,F1 Try.prog (A a)) (dec:List AVal->Heap->Option (C.α×List (Nat×Nat)×List Nat)):AW Try.prog g (C.spec dec):=
 Ctr.spec_ok (λa ha=>Wk hf (hok a) (hΓ a) (h a ha) (hI a)) dec
theorem okT(C:Ctr){g:FuncId}(h:∀a,JS (C.pre a)->FnT Try.prog g (C.xs a) (AD (C.L a)) (C.val a) (C.keep a))(dec:List AVal->Heap->Option (C.α×List (Nat×Nat)×List Nat)):AW Try.prog g (C.spec dec):=Ctr.spec_ok h dec
end Go.Bal

namespace Go.Bal
open Go Go.Sym Go.Proofs
abbrev BAF:FuncId:=5
noncomputable abbrev AXT:Func:=Tryz.f5
theorem BXI:Try.prog.funcs[BAF]?=some AXT:=Tryz.func5
abbrev BCV:FuncId:=4
noncomputable abbrev AZL:Func:=Tryz.f4
theorem BXM:Try.prog.funcs[BCV]?=some AZL:=Tryz.func4
abbrev ANG:FuncId:=3
noncomputable abbrev AOI:Func:=Tryz.f3
theorem BQJ:Try.prog.funcs[ANG]?=some AOI:=Tryz.func3
abbrev BLI:FuncId:=6
noncomputable abbrev IR:Func:=Tryz.f6
theorem BVN:Try.prog.funcs[BLI]?=some IR:=Tryz.func6
abbrev AXK:FuncId:=38
noncomputable abbrev AKL:Func:=Tryz.f38
theorem BMY:Try.prog.funcs[AXK]?=some AKL:=Tryz.func38
abbrev AWK:FuncId:=23
noncomputable abbrev BGN:Func:=Tryz.f23
theorem CFO:Try.prog.funcs[AWK]?=some BGN:=Tryz.func23
abbrev BAB:FuncId:=9
noncomputable abbrev BQE:Func:=Tryz.f9
theorem CNX:Try.prog.funcs[BAB]?=some BQE:=Tryz.func9
abbrev AXQ:FuncId:=12
noncomputable abbrev AIB:Func:=Tryz.f12
theorem BLD:Try.prog.funcs[AXQ]?=some AIB:=Tryz.func12
abbrev ABX:FuncId:=8
noncomputable abbrev BJM:Func:=Tryz.f8
theorem CHW:Try.prog.funcs[ABX]?=some BJM:=Tryz.func8
abbrev AIE:FuncId:=33
noncomputable abbrev P3:Func:=Tryz.f33
theorem BEA:Try.prog.funcs[AIE]?=some P3:=Tryz.func33
abbrev BIS:FuncId:=14
noncomputable abbrev BBD:Func:=Tryz.f14
theorem BSW:Try.prog.funcs[BIS]?=some BBD:=Tryz.func14
abbrev AXH:FuncId:=16
noncomputable abbrev AIQ:Func:=Tryz.f16
theorem BLJ:Try.prog.funcs[AXH]?=some AIQ:=Tryz.func16
abbrev AWX:FuncId:=35
noncomputable abbrev BJX:Func:=Tryz.f35
theorem CDW:Try.prog.funcs[AWX]?=some BJX:=Tryz.func35
abbrev AWZ:FuncId:=25
noncomputable abbrev BGM:Func:=Tryz.f25
theorem CGP:Try.prog.funcs[AWZ]?=some BGM:=Tryz.func25
abbrev BAM:FuncId:=39
noncomputable abbrev O2:Func:=Tryz.f39
theorem BEH:Try.prog.funcs[BAM]?=some O2:=Tryz.func39
abbrev AJU:FuncId:=29
noncomputable abbrev Q3:Func:=Tryz.f29
theorem BEE:Try.prog.funcs[AJU]?=some Q3:=Tryz.func29
abbrev AWM:FuncId:=10
noncomputable abbrev BJK:Func:=Tryz.f10
theorem CII:Try.prog.funcs[AWM]?=some BJK:=Tryz.func10
abbrev BOK:FuncId:=21
noncomputable abbrev BDI:Func:=Tryz.f21
theorem BRE:Try.prog.funcs[BOK]?=some BDI:=Tryz.func21
abbrev AXO:FuncId:=36
noncomputable abbrev ALJ:Func:=Tryz.f36
theorem BKR:Try.prog.funcs[AXO]?=some ALJ:=Tryz.func36
abbrev W8:FuncId:=40
noncomputable abbrev bJ:Func:=Tryz.f40
theorem ACL:Try.prog.funcs[W8]?=some bJ:=Tryz.func40
abbrev dU:FuncId:=45
noncomputable abbrev AFD:Func:=Tryz.f45
theorem BIE:Try.prog.funcs[dU]?=some AFD:=Tryz.func45
abbrev AXZ:FuncId:=67
noncomputable abbrev sJ:Func:=Tryz.f67
theorem ANV:Try.prog.funcs[AXZ]?=some sJ:=Tryz.func67
abbrev BIQ:FuncId:=43
noncomputable abbrev BHP:Func:=Tryz.f43
theorem CIG:Try.prog.funcs[BIQ]?=some BHP:=Tryz.func43
abbrev BFV:FuncId:=44
noncomputable abbrev BJI:Func:=Tryz.f44
theorem CAN:Try.prog.funcs[BFV]?=some BJI:=Tryz.func44
abbrev BGZ:FuncId:=20
noncomputable abbrev BHG:Func:=Tryz.f20
theorem CCX:Try.prog.funcs[BGZ]?=some BHG:=Tryz.func20
abbrev ASY:FuncId:=46
noncomputable abbrev BQK:Func:=Tryz.f46
theorem CIZ:Try.prog.funcs[ASY]?=some BQK:=Tryz.func46
abbrev n_in:FuncId:=47
noncomputable abbrev F_in:Func:=Tryz.f47
theorem DEJ:Try.prog.funcs[n_in]?=some F_in:=Tryz.func47
abbrev AMK:FuncId:=48
noncomputable abbrev BPK:Func:=Tryz.f48
theorem CMW:Try.prog.funcs[AMK]?=some BPK:=Tryz.func48
abbrev No:FuncId:=49
noncomputable abbrev qK:Func:=Tryz.f49
theorem AVF:Try.prog.funcs[No]?=some qK:=Tryz.func49
abbrev AIR:FuncId:=50
noncomputable abbrev BAD:Func:=Tryz.f50
theorem BWP:Try.prog.funcs[AIR]?=some BAD:=Tryz.func50
abbrev AIO:FuncId:=51
noncomputable abbrev BFZ:Func:=Tryz.f51
theorem CHH:Try.prog.funcs[AIO]?=some BFZ:=Tryz.func51
abbrev BLP:FuncId:=42
noncomputable abbrev BLG:Func:=Tryz.f42
theorem BZR:Try.prog.funcs[BLP]?=some BLG:=Tryz.func42
abbrev AWY:FuncId:=30
noncomputable abbrev BIW:Func:=Tryz.f30
theorem CBR:Try.prog.funcs[AWY]?=some BIW:=Tryz.func30
abbrev AXP:FuncId:=60
noncomputable abbrev BHD:Func:=Tryz.f60
theorem CGH:Try.prog.funcs[AXP]?=some BHD:=Tryz.func60
abbrev AWW:FuncId:=61
noncomputable abbrev BHZ:Func:=Tryz.f61
theorem BZJ:Try.prog.funcs[AWW]?=some BHZ:=Tryz.func61
abbrev AXM:FuncId:=19
noncomputable abbrev BGU:Func:=Tryz.f19
theorem CGA:Try.prog.funcs[AXM]?=some BGU:=Tryz.func19
abbrev Iz:FuncId:=62
noncomputable abbrev U3:Func:=Tryz.f62
theorem BEG:Try.prog.funcs[Iz]?=some U3:=Tryz.func62
abbrev BFU:FuncId:=79
noncomputable abbrev CAW:Func:=Tryz.f79
theorem CWT:Try.prog.funcs[BFU]?=some CAW:=Tryz.func79
abbrev AZG:FuncId:=56
noncomputable abbrev AZM:Func:=Tryz.f56
theorem BVP:Try.prog.funcs[AZG]?=some AZM:=Tryz.func56
abbrev BHV:FuncId:=57
noncomputable abbrev BGV:Func:=Tryz.f57
theorem CHE:Try.prog.funcs[BHV]?=some BGV:=Tryz.func57
abbrev C8:FuncId:=58
noncomputable abbrev rU:Func:=Tryz.f58
theorem AUY:Try.prog.funcs[C8]?=some rU:=Tryz.func58
abbrev BQO:FuncId:=59
noncomputable abbrev BOD:Func:=Tryz.f59
theorem CMZ:Try.prog.funcs[BQO]?=some BOD:=Tryz.func59
abbrev n_eP:FuncId:=71
noncomputable abbrev F_eP:Func:=Tryz.f71
theorem DCO:Try.prog.funcs[n_eP]?=some F_eP:=Tryz.func71
abbrev BDC:FuncId:=63
noncomputable abbrev BOE:Func:=Tryz.f63
theorem CLI:Try.prog.funcs[BDC]?=some BOE:=Tryz.func63
abbrev BDF:FuncId:=64
noncomputable abbrev BOP:Func:=Tryz.f64
theorem CKD:Try.prog.funcs[BDF]?=some BOP:=Tryz.func64
abbrev Zw:FuncId:=80
noncomputable abbrev AKE:Func:=Tryz.f80
theorem BLN:Try.prog.funcs[Zw]?=some AKE:=Tryz.func80
abbrev n_eI:FuncId:=81
noncomputable abbrev F_eI:Func:=Tryz.f81
theorem DCU:Try.prog.funcs[n_eI]?=some F_eI:=Tryz.func81
abbrev AIZ:FuncId:=82
noncomputable abbrev BDE:Func:=Tryz.f82
theorem BXB:Try.prog.funcs[AIZ]?=some BDE:=Tryz.func82
abbrev AIF:FuncId:=83
noncomputable abbrev BHO:Func:=Tryz.f83
theorem CBD:Try.prog.funcs[AIF]?=some BHO:=Tryz.func83
abbrev S4:FuncId:=84
noncomputable abbrev AZO:Func:=Tryz.f84
theorem BXD:Try.prog.funcs[S4]?=some AZO:=Tryz.func84
abbrev mQ:FuncId:=87
noncomputable abbrev AIC:Func:=Tryz.f87
theorem BMI:Try.prog.funcs[mQ]?=some AIC:=Tryz.func87
abbrev zQ:FuncId:=88
noncomputable abbrev BCT:Func:=Tryz.f88
theorem BWE:Try.prog.funcs[zQ]?=some BCT:=Tryz.func88
abbrev AIV:FuncId:=89
noncomputable abbrev T1:Func:=Tryz.f89
theorem BFC:Try.prog.funcs[AIV]?=some T1:=Tryz.func89
abbrev AKN:FuncId:=97
noncomputable abbrev AHZ:Func:=Tryz.f97
theorem BMF:Try.prog.funcs[AKN]?=some AHZ:=Tryz.func97
abbrev jE:FuncId:=98
noncomputable abbrev BPL:Func:=Tryz.f98
theorem CJK:Try.prog.funcs[jE]?=some BPL:=Tryz.func98
abbrev BQD:FuncId:=99
noncomputable abbrev BNS:Func:=Tryz.f99
theorem CND:Try.prog.funcs[BQD]?=some BNS:=Tryz.func99
abbrev AZN:FuncId:=100
noncomputable abbrev BQQ:Func:=Tryz.f100
theorem CNQ:Try.prog.funcs[AZN]?=some BQQ:=Tryz.func100
abbrev bO:FuncId:=90
noncomputable abbrev mK:Func:=Tryz.f90
theorem X9:Try.prog.funcs[bO]?=some mK:=Tryz.func90
abbrev AII:FuncId:=91
noncomputable abbrev AZA:Func:=Tryz.f91
theorem BWT:Try.prog.funcs[AII]?=some AZA:=Tryz.func91
abbrev ARL:FuncId:=92
noncomputable abbrev BPT:Func:=Tryz.f92
theorem CJV:Try.prog.funcs[ARL]?=some BPT:=Tryz.func92
abbrev n_eS:FuncId:=93
noncomputable abbrev F_eS:Func:=Tryz.f93
theorem CQI:Try.prog.funcs[n_eS]?=some F_eS:=Tryz.func93
abbrev BIH:FuncId:=94
noncomputable abbrev BOI:Func:=Tryz.f94
theorem CJE:Try.prog.funcs[BIH]?=some BOI:=Tryz.func94
abbrev AIY:FuncId:=31
noncomputable abbrev BJJ:Func:=Tryz.f31
theorem CBX:Try.prog.funcs[AIY]?=some BJJ:=Tryz.func31
abbrev BJA:FuncId:=105
noncomputable abbrev BQH:Func:=Tryz.f105
theorem CMU:Try.prog.funcs[BJA]?=some BQH:=Tryz.func105
abbrev pO:FuncId:=95
noncomputable abbrev AYD:Func:=Tryz.f95
theorem BXC:Try.prog.funcs[pO]?=some AYD:=Tryz.func95
abbrev L7:FuncId:=96
noncomputable abbrev BHY:Func:=Tryz.f96
theorem CHQ:Try.prog.funcs[L7]?=some BHY:=Tryz.func96
abbrev CDP:FuncId:=101
noncomputable abbrev BYA:Func:=Tryz.f101
theorem CTY:Try.prog.funcs[CDP]?=some BYA:=Tryz.func101
abbrev BLX:FuncId:=102
noncomputable abbrev CDN:Func:=Tryz.f102
theorem CTR:Try.prog.funcs[BLX]?=some CDN:=Tryz.func102
abbrev CHD:FuncId:=106
noncomputable abbrev CBW:Func:=Tryz.f106
theorem CUN:Try.prog.funcs[CHD]?=some CBW:=Tryz.func106
abbrev BLQ:FuncId:=107
noncomputable abbrev CBG:Func:=Tryz.f107
theorem CYT:Try.prog.funcs[BLQ]?=some CBG:=Tryz.func107
abbrev BPS:FuncId:=108
noncomputable abbrev BPX:Func:=Tryz.f108
theorem CKF:Try.prog.funcs[BPS]?=some BPX:=Tryz.func108
abbrev BEV:FuncId:=112
noncomputable abbrev BKC:Func:=Tryz.f112
theorem BZB:Try.prog.funcs[BEV]?=some BKC:=Tryz.func112
abbrev BIO:FuncId:=113
noncomputable abbrev BPV:Func:=Tryz.f113
theorem CLH:Try.prog.funcs[BIO]?=some BPV:=Tryz.func113
abbrev BJR:FuncId:=114
noncomputable abbrev BPZ:Func:=Tryz.f114
theorem CKM:Try.prog.funcs[BJR]?=some BPZ:=Tryz.func114
abbrev BNL:FuncId:=110
noncomputable abbrev BKB:Func:=Tryz.f110
theorem CAT:Try.prog.funcs[BNL]?=some BKB:=Tryz.func110
abbrev AJX:FuncId:=111
noncomputable abbrev BNM:Func:=Tryz.f111
theorem BZW:Try.prog.funcs[AJX]?=some BNM:=Tryz.func111
abbrev xS:FuncId:=72
noncomputable abbrev AMX:Func:=Tryz.f72
theorem BPY:Try.prog.funcs[xS]?=some AMX:=Tryz.func72
abbrev n_eN:FuncId:=73
noncomputable abbrev F_eN:Func:=Tryz.f73
theorem DAH:Try.prog.funcs[n_eN]?=some F_eN:=Tryz.func73
abbrev AHV:FuncId:=74
noncomputable abbrev BBN:Func:=Tryz.f74
theorem BVL:Try.prog.funcs[AHV]?=some BBN:=Tryz.func74
abbrev BGJ:FuncId:=75
noncomputable abbrev BGI:Func:=Tryz.f75
theorem CCL:Try.prog.funcs[BGJ]?=some BGI:=Tryz.func75
abbrev BKN:FuncId:=76
noncomputable abbrev BKM:Func:=Tryz.f76
theorem CEF:Try.prog.funcs[BKN]?=some BKM:=Tryz.func76
abbrev S5:FuncId:=77
noncomputable abbrev BBS:Func:=Tryz.f77
theorem BVO:Try.prog.funcs[S5]?=some BBS:=Tryz.func77
abbrev CAA:FuncId:=115
noncomputable abbrev BYK:Func:=Tryz.f115
theorem CXF:Try.prog.funcs[CAA]?=some BYK:=Tryz.func115
abbrev CIE:FuncId:=116
noncomputable abbrev CHJ:Func:=Tryz.f116
theorem CYE:Try.prog.funcs[CIE]?=some CHJ:=Tryz.func116
abbrev BQG:FuncId:=117
noncomputable abbrev BPI:Func:=Tryz.f117
theorem CKT:Try.prog.funcs[BQG]?=some BPI:=Tryz.func117
abbrev AUD:FuncId:=119
noncomputable abbrev AZK:Func:=Tryz.f119
theorem BUD:Try.prog.funcs[AUD]?=some AZK:=Tryz.func119
abbrev AKM:FuncId:=128
noncomputable abbrev AZF:Func:=Tryz.f128
theorem BVU:Try.prog.funcs[AKM]?=some AZF:=Tryz.func128
abbrev BNK:FuncId:=118
noncomputable abbrev BKZ:Func:=Tryz.f118
theorem BZV:Try.prog.funcs[BNK]?=some BKZ:=Tryz.func118
abbrev BKJ:FuncId:=103
noncomputable abbrev CDC:Func:=Tryz.f103
theorem CVA:Try.prog.funcs[BKJ]?=some CDC:=Tryz.func103
abbrev BMG:FuncId:=104
noncomputable abbrev BKY:Func:=Tryz.f104
theorem CHT:Try.prog.funcs[BMG]?=some BKY:=Tryz.func104
abbrev AJH:FuncId:=130
noncomputable abbrev BBG:Func:=Tryz.f130
theorem BVQ:Try.prog.funcs[AJH]?=some BBG:=Tryz.func130
end Go.Bal
