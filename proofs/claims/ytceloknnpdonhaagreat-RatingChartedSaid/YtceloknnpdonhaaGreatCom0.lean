/- Data, and how they read. -/
import Derived.Test.YtceloknnpdonhaaGreatSym11
import Derived.Test.YtceloknnpdonhaaGreatSym12
import Derived.KernelRfl
import Derived.Test.YtceloknnpdonhaaGreatProg
set_option linter.unusedVariables false
set_option linter.unusedSimpArgs false
namespace Go.Bal
open Go Go.Sym
def gD{α:Type}[Inhabited α](l:List α)(i:Nat):α:=l.getD i default
def KA{α:Type}(n:Nat)(f:Nat->α):List α:=(List.range n).map f
@[simp] theorem rng_length {α:Type} (n:Nat) (f:Nat->α):(KA n f).length=n:=by simp[KA]
theorem OW{α:Type}[Inhabited α](n:Nat)(f:Nat->α)(i:Nat)(h:i<n):gD (KA n f) i=f i:=by
 simp[gD,KA,List.getD_eq_getElem?_getD,h]
theorem RI{α:Type}[Inhabited α](l:List α):KA l.length (λi=>gD l i)=l:=by
 apply List.ext_getElem
 ·simp
 ·intro i h1 h2
  simp[gD,KA,List.getD_eq_getElem?_getD,h2]
theorem yX{α:Type}[Inhabited α](l m:List α)(i:Nat):gD (l ++ m) i=if i<l.length then gD l i else gD m (i-l.length):=by
 simp only[gD,List.getD_eq_getElem?_getD]
 split
 ·rename_i h;rw[List.getElem?_append_left h]
 ·rename_i h;rw[List.getElem?_append_right (by omega)]
theorem CCR{α:Type}[Inhabited α]{l:List α}{k:Nat}(h:k<l.length):l.drop k=gD l k :: l.drop (k+1):=by
 rw[List.drop_eq_getElem_cons h];simp[gD,List.getD_eq_getElem?_getD,h]
theorem DBA{α:Type}[Inhabited α]{l m:List α}(hl:l.length=m.length)(h:∀i,i<l.length->gD l i=gD m i):l=m:=by
 apply List.ext_getElem hl
 intro i h1 h2
 have:=h i h1
 simpa[gD,List.getD_eq_getElem?_getD,h1,h2] using this
structure Span where
 lo:Int
 hi:Int
 deriving Inhabited,DecidableEq
def JS(n:Int):DVal:=.v (.int .i64 n)
def DXY(b:Bool):DVal:=.v (.bool b)
def TF(s:Span):DVal:=.agg [JS s.lo,JS s.hi]
def lst(k n:Nat)(g:Nat->DVal):DVal:=.list k n g false
def TE:DVal:=.list 0 0 (λ_=>default) true
def EO:DVal->Int
 | .v (.int _ n)=>n
 |_=>0
def DTO:DVal->Bool
 | .v (.bool b)=>b
 |_=>false
def Ty:DVal->Span
 | .agg [a,b]=>⟨EO a,EO b⟩
 |_=>default
def AL(f:Func):Code:=f.body.getD .skip
@[simp] theorem dInt_eInt (n:Int):EO (JS n)=n:=rfl
@[simp] theorem dSpan_eSpan (s:Span):Ty (TF s)=s:=rfl
theorem CER(a b:Int):Ty (.agg [JS a,JS b])=Span.mk a b:=rfl
def ann(n:Nat)(l:List (FuncId×Sym.Spec)):Ann:={ base:=λid=>1000*(id+1),Γ:=Sym.look l,E:=[],n:=n }
def okFn(A:Ann)(fn:Func)(xs:List AVal)(L:List (Nat×AObj))(keep:List (Nat×HCell)):Bool:=
 !(fn.name == "runtime.NumGoroutine") && fn.body.isSome && Nat.beq A.n fn.ntmps && Nat.ble xs.length fn.ntmps && A.E == L.map (·.1) && nodup (keep.map (·.1))
theorem JC{n:Int}(h0:-9223372036854775808<=n)(h1:n<=9223372036854775807):IntKind.i64.wrap n=n:=by
 simp only[IntKind.wrap,IntKind.bits,IntKind.signed]
 rcases Int.lt_or_le n 0 with h | h
 ·have:n % (2 ^ 64:Int)=n+2 ^ 64:=by
   rw[<-Int.add_emod_right];exact Int.emod_eq_of_lt (by omega) (by omega)
  simp only[this]
  rw[if_pos (by simp;omega)];omega
 ·have:n % (2 ^ 64:Int)=n:=Int.emod_eq_of_lt h (by omega)
  simp only[this]
  rw[if_neg (by simp;omega)]
theorem FN{a:Nat}(h:a<9223372036854775807):IntKind.i64.wrap ((a:Int)+1)=((a+1:Nat):Int):=by
 rw[JC (by omega) (by omega)];rfl
def Gs(p:Nat->Bool):Nat->Nat->Int
 |0,_=>-1
 |n+1,k=>if p k then k else Gs p n (k+1)
theorem Wd{p:Nat->Bool}{n k:Nat}(hk:k<n)(h:p k=true):Gs p (n-k) k=k:=by
 obtain⟨m,rfl⟩:∃m,n=k+1+m:=⟨n-k-1,by omega⟩
 rw[show k+1+m-k=m+1 by omega];simp[Gs,h]
theorem F3{p:Nat->Bool}{n k:Nat}(hk:k<n)(h:p k=false):Gs p (n-k) k=Gs p (n-(k+1)) (k+1):=by
 obtain⟨m,rfl⟩:∃m,n=k+1+m:=⟨n-k-1,by omega⟩
 rw[show k+1+m-k=m+1 by omega,show k+1+m-(k+1)=m by omega];simp[Gs,h]
theorem jL{p:Nat->Bool}{n k:Nat}(hk:n<=k):Gs p (n-k) k=-1:=by
 rw[show n-k=0 by omega];rfl
theorem J8{α:Type}[Inhabited α](l:List α)(x:α){i:Nat}(hi:i<l.length+1):gD (l ++ [x]) i=bif decide (i<l.length) then gD l i else x:=by
 rw[yX]
 by_cases h:i<l.length
 ·simp[h]
 ·have:i-l.length=0:=by omega
  simp only[h,if_false,decide_false,cond_false,this];rfl
theorem HI{α:Type}[Inhabited α]{l:List α}{k:Nat}(h:k<l.length):gD l k∈l:=by
 unfold gD;rw[List.getD_eq_getElem?_getD,List.getElem?_eq_getElem h];exact List.getElem_mem h
theorem aQ{α:Type}[Inhabited α]{l:List α}{x:α}(h:x∈l):∃i,i<l.length/\gD l i=x:=by
 obtain⟨i,hi,rfl⟩:=List.getElem_of_mem h
 exact⟨i,hi,by simp[gD,List.getD_eq_getElem?_getD,hi]⟩
def FE(l:List Int):DVal:=lst 1 l.length λi=>JS (gD l i)
def vE:AVal->Heap->Option (Nat×(Nat->DVal)×List Nat)
 | .d (.list _ n g _),_=>some (n,g,[])
 | .own id _ _ n,H=>match H id with
  | .live (.row _ _ g)=>some (n,g,[id])
  |_=>none
 |_,_=>none
def W2(a:AVal)(H:Heap):Option (List Int×List Nat):=match vE a H with
 |some (n,g,f)=>some (KA n λi=>EO (g i),f)
 |none=>none
structure One where
 u:Nat:=0
 deriving Inhabited
end Go.Bal
namespace Go.Bal.DL
open Go.Sym Go
theorem a1(n:Int):EO (JS n)=n:=rfl
theorem a2(s:Span):Ty (TF s)=s:=rfl
theorem b2(a b:Int):Ty (.agg [JS a,JS b])=Span.mk a b:=rfl
theorem d1(s:Span):Span.mk s.lo s.hi=s:=rfl
theorem e1(n:Nat):Int.toNat (n:Int)=n:=rfl
theorem e2(n:Nat):(Int.ofNat n).toNat=n:=rfl
end Go.Bal.DL

namespace Go.Proofs.Try
open Go
noncomputable abbrev prog:Program:=Go.Proofs.Tryz.prog
end Go.Proofs.Try
namespace Go.Bal
open Go Go.Sym Go.Proofs
theorem CRN:Try.prog.follows .mixedOrders=true:=by kernel_rfl
theorem YE{A:Ann}(h:A.iterIn=λ_ _=>none)(h2:A.iter=λ_=>none):BEX Try.prog A:=λgs g x e=>by
 rw[Ann.iterAt,h] at e;simp only[h2] at e;cases e
theorem Mj{A:Ann}{g:FuncId}{fn:Func}{xs:List AVal}{L:List (Nat×AObj)}{val:AVal}{keep:List (Nat×HCell)}{ren:List (Nat×Nat)}{fz:List Nat}(hf:Try.prog.funcs[g]?=some fn)(hok:okFn A fn xs L keep=true)
  (hΓ:GOk Try.prog A.Γ) (h:BG Try.prog A fn (AL fn) xs (AF L) val keep ren fz) (hI:BEX Try.prog A:=by exact YE rfl rfl):FnT Try.prog g xs (AF L) val keep:=by
 simp only[okFn,Bool.and_eq_true,Bool.not_eq_true',beq_iff_eq,PT,Nat.ble_eq,Option.isSome_iff_exists] at hok
 obtain⟨⟨⟨⟨⟨h1,code,h2⟩,h3⟩,h4⟩,h5⟩,h6⟩:=hok
 exact FnT.of_vc hΓ hI CRN hf h1 h2 ⟨h3,h4⟩ h5 h6 (by unfold AL at h;rw[h2] at h;exact h)
theorem CDQ {A : Ann} (n0 : FuncId) (x : IterAnn) (h : A.iterIn = λ _ _ => none) (h2 : A.iter = λ g => if g = n0 then some x else none) (hΓ : GOk Try.prog x.ann.Γ) (hf : Try.prog.funcs[n0]? = some x.fn) (hname : (x.fn.name == "runtime.NumGoroutine") = false) (hb : x.fn.body = some x.code) : BEX Try.prog A := λ gs g y e => by
 rw[Ann.iterAt,h] at e
 simp only[h2] at e
 split at e
 ·rename_i hg
  cases e;subst hg
  exact⟨hΓ,BWP hf hname hb,hf,hb⟩
 ·cases e
theorem WY(C:Ctr)(A:C.α->Ann)(ren:List (Nat×Nat))(fz:List Nat){g:FuncId}{fn:Func}(hf:Try.prog.funcs[g]?=some fn)(hok:∀a,okFn (A a) fn (C.xs a) (C.L a) (C.keep a)=true)(hΓ:∀a,GOk Try.prog (A a).Γ)
  (h:∀a,EL (C.pre a)->BG Try.prog (A a) fn (AL fn) (C.xs a) (AF (C.L a)) (C.val a) (C.keep a) ren fz) (hI:∀a,BEX Try.prog (A a)) (dec:List AVal->Heap->Option (C.α×List (Nat×Nat)×List Nat)):AM Try.prog g (C.spec dec):=
 Ctr.spec_ok (λa ha=>Mj hf (hok a) (hΓ a) (h a ha) (hI a)) dec
theorem okT(C:Ctr){g:FuncId}(h:∀a,EL (C.pre a)->FnT Try.prog g (C.xs a) (AF (C.L a)) (C.val a) (C.keep a))(dec:List AVal->Heap->Option (C.α×List (Nat×Nat)×List Nat)):AM Try.prog g (C.spec dec):=Ctr.spec_ok h dec
end Go.Bal

namespace Go.Bal
open Go Go.Sym Go.Proofs
-- none: nilometer/nilometerlaw02.ChartMore
-- none: nilometer/nilometerlaw02.ChartPeaks
-- none: nilometer/nilometerlaw02.ChartLater
-- none: nilometer/nilometerlaw02.ChartParted
-- none: nilometer/nilometerlaw02.ChartFewest
-- none: nilometer/nilometerlaw02.ChartRead
-- none: nilometer/nilometerlaw02.ChartReached
-- none: nilometer/nilometerlaw02.ChartTimes
-- none: nilometer/nilometerlaw02.ChartStops
-- none: nilometer/nilometerlaw02.ChartStages
-- none: nilometer/nilometerlaw02.ChartSmall
abbrev CAS:FuncId:=4
noncomputable abbrev CAV:Func:=Tryz.f4
theorem CWC:Try.prog.funcs[CAS]?=some CAV:=Tryz.func4
abbrev BNF:FuncId:=16
noncomputable abbrev BXN:Func:=Tryz.f16
theorem CZK:Try.prog.funcs[BNF]?=some BXN:=Tryz.func16
-- none: nilometer/nilometerlaw02.contains
abbrev CBN:FuncId:=10
noncomputable abbrev BCV:Func:=Tryz.f10
theorem CFZ:Try.prog.funcs[CBN]?=some BCV:=Tryz.func10
-- none: nilometer/nilometerlaw02.awake
-- none: nilometer/chart.Stages
-- none: nilometer/chart.Peak
-- none: nilometer/chart.First
-- none: nilometer/nilometerkit.Same[nilometer/api.Span]
-- none: nilometer/chart.Pairs
-- none: nilometer/chart.Agrees
-- none: nilometer/chart.Proves
-- none: nilometer/nilometerkit.Copy[int]
-- none: nilometer/chart.Late
-- none: nilometer/chart.Holds
-- none: nilometer/chart.Truths
abbrev BEO:FuncId:=15
noncomputable abbrev BKB:Func:=Tryz.f15
theorem CML:Try.prog.funcs[BEO]?=some BKB:=Tryz.func15
abbrev BSH:FuncId:=28
noncomputable abbrev ATN:Func:=Tryz.f28
theorem CBZ:Try.prog.funcs[BSH]?=some ATN:=Tryz.func28
-- none: nilometer/chart.fewest
-- none: nilometer/nilometerkit.Copy[nilometer/chart.Mark]
-- none: nilometer/nilometerkit.Copy[nilometer/chart.Note]
-- none: nilometer/nilometerkit.Copy[nilometer/chart.Pair]
abbrev CCT:FuncId:=29
noncomputable abbrev CLT:Func:=Tryz.f29
theorem DIG:Try.prog.funcs[CCT]?=some CLT:=Tryz.func29
abbrev BCD:FuncId:=30
noncomputable abbrev DCL:Func:=Tryz.f30
theorem DSC:Try.prog.funcs[BCD]?=some DCL:=Tryz.func30
abbrev BXP:FuncId:=31
noncomputable abbrev CKM:Func:=Tryz.f31
theorem DJO:Try.prog.funcs[BXP]?=some CKM:=Tryz.func31
abbrev K6:FuncId:=32
noncomputable abbrev AST:Func:=Tryz.f32
theorem CEP:Try.prog.funcs[K6]?=some AST:=Tryz.func32
abbrev BSG:FuncId:=33
noncomputable abbrev BRG:Func:=Tryz.f33
theorem CRV:Try.prog.funcs[BSG]?=some BRG:=Tryz.func33
abbrev BZG:FuncId:=34
noncomputable abbrev CAY:Func:=Tryz.f34
theorem CVA:Try.prog.funcs[BZG]?=some CAY:=Tryz.func34
-- none: nilometer/nilometerlaw02.One
-- none: nilometer/nilometerkit.Same[nilometer/chart.Pair]
-- none: nilometer/nilometerkit.Same[nilometer/chart.Mark]
-- none: nilometer/nilometerkit.Same[nilometer/chart.Note]
-- none: nilometer/nilometerkit.Same[int]
abbrev yO:FuncId:=95
noncomputable abbrev zU:Func:=Tryz.f95
theorem BRL:Try.prog.funcs[yO]?=some zU:=Tryz.func95
abbrev CPE:FuncId:=61
noncomputable abbrev CZH:Func:=Tryz.f61
theorem DPU:Try.prog.funcs[CPE]?=some CZH:=Tryz.func61
-- none: (*nilometer/chart.desk).within
-- none: nilometer/chart.least
-- none: (nilometer/chart.end).greatest
-- none: nilometer/chart.most
-- none: nilometer/chart.every[nilometer/chart.Pair]
-- none: (*nilometer/chart.desk).pair
-- none: (*nilometer/chart.desk).late
abbrev BDY:FuncId:=59
noncomputable abbrev BDN:Func:=Tryz.f59
theorem CFI:Try.prog.funcs[BDY]?=some BDN:=Tryz.func59
-- none: nilometer/chart.every[int]
-- none: nilometer/chart.Holds$1
abbrev BZX:FuncId:=97
noncomputable abbrev CBK:Func:=Tryz.f97
theorem DES:Try.prog.funcs[BZX]?=some CBK:=Tryz.func97
abbrev BOC:FuncId:=98
noncomputable abbrev BRR:Func:=Tryz.f98
theorem CSR:Try.prog.funcs[BOC]?=some BRR:=Tryz.func98
abbrev BXM:FuncId:=60
noncomputable abbrev BYO:Func:=Tryz.f60
theorem DAB:Try.prog.funcs[BXM]?=some BYO:=Tryz.func60
abbrev BCB:FuncId:=65
noncomputable abbrev BRA:Func:=Tryz.f65
theorem CSM:Try.prog.funcs[BCB]?=some BRA:=Tryz.func65
-- none: slices.Clone[[]int,int]
-- none: slices.SortFunc[[]int,int]
-- none: nilometer/chart.fewest$1
abbrev CLY:FuncId:=96
noncomputable abbrev CME:Func:=Tryz.f96
theorem DHT:Try.prog.funcs[CLY]?=some CME:=Tryz.func96
abbrev AOE:FuncId:=62
noncomputable abbrev BBP:Func:=Tryz.f62
theorem CHN:Try.prog.funcs[AOE]?=some BBP:=Tryz.func62
abbrev BDT:FuncId:=63
noncomputable abbrev BTF:Func:=Tryz.f63
theorem CTE:Try.prog.funcs[BDT]?=some BTF:=Tryz.func63
abbrev BKA:FuncId:=64
noncomputable abbrev CIC:Func:=Tryz.f64
theorem DGP:Try.prog.funcs[BKA]?=some CIC:=Tryz.func64
abbrev n_eS:FuncId:=66
noncomputable abbrev F_eS:Func:=Tryz.f66
theorem DMB:Try.prog.funcs[n_eS]?=some F_eS:=Tryz.func66
abbrev CCW:FuncId:=67
noncomputable abbrev CLX:Func:=Tryz.f67
theorem DHL:Try.prog.funcs[CCW]?=some CLX:=Tryz.func67
abbrev BTM:FuncId:=114
noncomputable abbrev BTT:Func:=Tryz.f114
theorem CSJ:Try.prog.funcs[BTM]?=some BTT:=Tryz.func114
abbrev BZY:FuncId:=99
noncomputable abbrev CIE:Func:=Tryz.f99
theorem DGW:Try.prog.funcs[BZY]?=some CIE:=Tryz.func99
-- none: nilometer/chart.least$1
-- none: nilometer/chart.most$1
-- none: slices.ContainsFunc[[]nilometer/chart.Pair,nilometer/chart.Pair]
-- none: nilometer/chart.every[nilometer/chart.Pair]$1
abbrev CJN:FuncId:=115
noncomputable abbrev CJZ:Func:=Tryz.f115
theorem DIP:Try.prog.funcs[CJN]?=some CJZ:=Tryz.func115
-- none: slices.pdqsortCmpFunc[int]
-- none: math/bits.Len
abbrev CEA:FuncId:=100
noncomputable abbrev CEN:Func:=Tryz.f100
theorem DFE:Try.prog.funcs[CEA]?=some CEN:=Tryz.func100
abbrev BDE:FuncId:=101
noncomputable abbrev CEC:Func:=Tryz.f101
theorem CUG:Try.prog.funcs[BDE]?=some CEC:=Tryz.func101
abbrev A8:FuncId:=121
noncomputable abbrev BKJ:Func:=Tryz.f121
theorem CIQ:Try.prog.funcs[A8]?=some BKJ:=Tryz.func121
abbrev n_eN:FuncId:=122
noncomputable abbrev F_eN:Func:=Tryz.f122
theorem DUP:Try.prog.funcs[n_eN]?=some F_eN:=Tryz.func122
abbrev BDZ:FuncId:=123
noncomputable abbrev BTS:Func:=Tryz.f123
theorem CTV:Try.prog.funcs[BDZ]?=some BTS:=Tryz.func123
abbrev BZC:FuncId:=124
noncomputable abbrev CCJ:Func:=Tryz.f124
theorem DBK:Try.prog.funcs[BZC]?=some CCJ:=Tryz.func124
abbrev CGW:FuncId:=125
noncomputable abbrev CDM:Func:=Tryz.f125
theorem CWS:Try.prog.funcs[CGW]?=some CDM:=Tryz.func125
abbrev AAP:FuncId:=126
noncomputable abbrev BOQ:Func:=Tryz.f126
theorem CTS:Try.prog.funcs[AAP]?=some BOQ:=Tryz.func126
-- none: slices.IndexFunc[[]nilometer/chart.Pair,nilometer/chart.Pair]
abbrev CIK:FuncId:=127
noncomputable abbrev CKT:Func:=Tryz.f127
theorem DIL:Try.prog.funcs[CIK]?=some CKT:=Tryz.func127
abbrev CDJ:FuncId:=116
noncomputable abbrev CFH:Func:=Tryz.f116
theorem CWU:Try.prog.funcs[CDJ]?=some CFH:=Tryz.func116
abbrev CDS:FuncId:=129
noncomputable abbrev DEH:Func:=Tryz.f129
theorem DRS:Try.prog.funcs[CDS]?=some DEH:=Tryz.func129
abbrev CGA:FuncId:=130
noncomputable abbrev CHQ:Func:=Tryz.f130
theorem CUP:Try.prog.funcs[CGA]?=some CHQ:=Tryz.func130
abbrev BDF:FuncId:=132
noncomputable abbrev BPB:Func:=Tryz.f132
theorem CTX:Try.prog.funcs[BDF]?=some BPB:=Tryz.func132
-- none: slices.siftDownCmpFunc[int]
-- none: slices.nextPowerOfTwo
-- none: (*slices.xorshift).Next
-- none: slices.medianAdjacentCmpFunc[int]
-- none: slices.medianCmpFunc[int]
-- none: slices.order2CmpFunc[int]
end Go.Bal
