/- Data, and how they read. -/
import Derived.Test.YtoihhodbkimedaaGreatSym10
import Derived.KernelRfl
import Derived.Test.YtoihhodbkimedaaGreatProg
set_option linter.unusedVariables false
set_option linter.unusedSimpArgs false
namespace Go.Bal
open Go Go.Sym
def gD{α:Type}[Inhabited α](l:List α)(i:Nat):α:=l.getD i default
def MK{α:Type}(n:Nat)(f:Nat->α):List α:=(List.range n).map f
@[simp] theorem rng_length {α:Type} (n:Nat) (f:Nat->α):(MK n f).length=n:=by simp[MK]
theorem pE{α:Type}[Inhabited α](n:Nat)(f:Nat->α)(i:Nat)(h:i<n):gD (MK n f) i=f i:=by
 simp[gD,MK,List.getD_eq_getElem?_getD,h]
theorem RB{α:Type}[Inhabited α](l:List α):MK l.length (λi=>gD l i)=l:=by
 apply List.ext_getElem
 ·simp
 ·intro i h1 h2
  simp[gD,MK,List.getD_eq_getElem?_getD,h2]
theorem wV{α:Type}[Inhabited α](l m:List α)(i:Nat):gD (l ++ m) i=if i<l.length then gD l i else gD m (i-l.length):=by
 simp only[gD,List.getD_eq_getElem?_getD]
 split
 ·rename_i h;rw[List.getElem?_append_left h]
 ·rename_i h;rw[List.getElem?_append_right (by omega)]
theorem BNT{α:Type}[Inhabited α]{l:List α}{k:Nat}(h:k<l.length):l.drop k=gD l k :: l.drop (k+1):=by
 rw[List.drop_eq_getElem_cons h];simp[gD,List.getD_eq_getElem?_getD,h]
structure Span where
 lo:Int
 hi:Int
 deriving Inhabited,DecidableEq
def QH(n:Int):DVal:=.v (.int .i64 n)
def CTZ(b:Bool):DVal:=.v (.bool b)
def AUE(s:Span):DVal:=.agg [QH s.lo,QH s.hi]
def lst(k n:Nat)(g:Nat->DVal):DVal:=.list k n g false
def ZU:DVal:=.list 0 0 (λ_=>default) true
def KT:DVal->Int
 | .v (.int _ n)=>n
 |_=>0
def AUI:DVal->Span
 | .agg [a,b]=>⟨KT a,KT b⟩
 |_=>default
def AI(f:Func):Code:=f.body.getD .skip
@[simp] theorem dInt_eInt (n:Int):KT (QH n)=n:=rfl
@[simp] theorem dSpan_eSpan (s:Span):AUI (AUE s)=s:=rfl
theorem BUC(a b:Int):AUI (.agg [QH a,QH b])=Span.mk a b:=rfl
def ann(n:Nat)(l:List (FuncId×Sym.Spec)):Ann:={ base:=λid=>1000*(id+1),Γ:=Sym.look l,E:=[],n:=n }
def okFn(A:Ann)(fn:Func)(xs:List AVal)(L:List (Nat×AObj))(keep:List (Nat×HCell)):Bool:=
 !(fn.name == "runtime.NumGoroutine") && fn.body.isSome && Nat.beq A.n fn.ntmps && Nat.ble xs.length fn.ntmps && A.E == L.map (·.1) && nodup (keep.map (·.1))
theorem JH{n:Int}(h0:-9223372036854775808<=n)(h1:n<=9223372036854775807):IntKind.i64.wrap n=n:=by
 simp only[IntKind.wrap,IntKind.bits,IntKind.signed]
 rcases Int.lt_or_le n 0 with h | h
 ·have:n % (2 ^ 64:Int)=n+2 ^ 64:=by
   rw[<-Int.add_emod_right];exact Int.emod_eq_of_lt (by omega) (by omega)
  simp only[this]
  rw[if_pos (by simp;omega)];omega
 ·have:n % (2 ^ 64:Int)=n:=Int.emod_eq_of_lt h (by omega)
  simp only[this]
  rw[if_neg (by simp;omega)]
theorem CN{a:Nat}(h:a<9223372036854775807):IntKind.i64.wrap ((a:Int)+1)=((a+1:Nat):Int):=by
 rw[JH (by omega) (by omega)];rfl
def gQ(p:Nat->Bool):Nat->Nat->Int
 |0,_=>-1
 |n+1,k=>if p k then k else gQ p n (k+1)
theorem ACK{p:Nat->Bool}{n k:Nat}(hk:k<n)(h:p k=true):gQ p (n-k) k=k:=by
 obtain⟨m,rfl⟩:∃m,n=k+1+m:=⟨n-k-1,by omega⟩
 rw[show k+1+m-k=m+1 by omega];simp[gQ,h]
theorem AVV{p:Nat->Bool}{n k:Nat}(hk:k<n)(h:p k=false):gQ p (n-k) k=gQ p (n-(k+1)) (k+1):=by
 obtain⟨m,rfl⟩:∃m,n=k+1+m:=⟨n-k-1,by omega⟩
 rw[show k+1+m-k=m+1 by omega,show k+1+m-(k+1)=m by omega];simp[gQ,h]
theorem ALR{p:Nat->Bool}{n k:Nat}(hk:n<=k):gQ p (n-k) k=-1:=by
 rw[show n-k=0 by omega];rfl
theorem AAC{α:Type}[Inhabited α](l:List α)(x:α){i:Nat}(hi:i<l.length+1):gD (l ++ [x]) i=bif decide (i<l.length) then gD l i else x:=by
 rw[wV]
 by_cases h:i<l.length
 ·simp[h]
 ·have:i-l.length=0:=by omega
  simp only[h,if_false,decide_false,cond_false,this];rfl
theorem CV{α:Type}[Inhabited α]{l:List α}{k:Nat}(h:k<l.length):gD l k∈l:=by
 unfold gD;rw[List.getD_eq_getElem?_getD,List.getElem?_eq_getElem h];exact List.getElem_mem h
theorem NL{α:Type}[Inhabited α]{l:List α}{x:α}(h:x∈l):∃i,i<l.length/\gD l i=x:=by
 obtain⟨i,hi,rfl⟩:=List.getElem_of_mem h
 exact⟨i,hi,by simp[gD,List.getD_eq_getElem?_getD,hi]⟩
theorem BBG{α β:Type}[Inhabited α][Inhabited β](f:α->β){l:List α}{i:Nat}(h:i<l.length):gD (l.map f) i=f (gD l i):=by
 simp[gD,List.getD_eq_getElem?_getD,h]
def CZ(l:List Int):DVal:=lst 1 l.length λi=>QH (gD l i)
def dRow:AVal->Heap->Option (Nat×(Nat->DVal)×List Nat)
 | .d (.list _ n g _),_=>some (n,g,[])
 | .own id _ _ n,H=>match H id with
  | .live (.row _ _ g)=>some (n,g,[id])
  |_=>none
 |_,_=>none
def tT(a:AVal)(H:Heap):Option (List Int×List Nat):=match dRow a H with
 |some (n,g,f)=>some (MK n λi=>KT (g i),f)
 |none=>none
structure One where
 u:Nat:=0
 deriving Inhabited
end Go.Bal
namespace Go.Bal.DL
open Go.Sym Go
theorem a1(n:Int):KT (QH n)=n:=rfl
theorem a2(s:Span):AUI (AUE s)=s:=rfl
theorem b2(a b:Int):AUI (.agg [QH a,QH b])=Span.mk a b:=rfl
theorem d1(s:Span):Span.mk s.lo s.hi=s:=rfl
theorem e1(n:Nat):Int.toNat (n:Int)=n:=rfl
theorem e2(n:Nat):(Int.ofNat n).toNat=n:=rfl
end Go.Bal.DL

namespace Go.Proofs.Try
open Go
noncomputable abbrev prog:Program:=Go.Proofs.Tryz.prog
end Go.Proofs.Try
namespace Go.Bal
open Go Go.Sym Go.Proofs
theorem BON:Try.prog.follows .mixedOrders=true:=by kernel_rfl
theorem WK{A:Ann}(h:A.iterIn=λ_ _=>none)(h2:A.iter=λ_=>none):AGR Try.prog A:=λgs g x e=>by
 rw[Ann.iterAt,h] at e;simp only[h2] at e;cases e
theorem Mn{A:Ann}{g:FuncId}{fn:Func}{xs:List AVal}{L:List (Nat×AObj)}{val:AVal}{keep:List (Nat×HCell)}{ren:List (Nat×Nat)}{fz:List Nat}(hf:Try.prog.funcs[g]?=some fn)(hok:okFn A fn xs L keep=true)
  (hΓ:GOk Try.prog A.Γ) (h:BQ Try.prog A fn (AI fn) xs (AD L) val keep ren fz) (hI:AGR Try.prog A:=by exact WK rfl rfl):FnT Try.prog g xs (AD L) val keep:=by
 simp only[okFn,Bool.and_eq_true,Bool.not_eq_true',beq_iff_eq,MT,Nat.ble_eq,Option.isSome_iff_exists] at hok
 obtain⟨⟨⟨⟨⟨h1,code,h2⟩,h3⟩,h4⟩,h5⟩,h6⟩:=hok
 exact FnT.of_vc hΓ hI BON hf h1 h2 ⟨h3,h4⟩ h5 h6 (by unfold AI at h;rw[h2] at h;exact h)
theorem BZA {A : Ann} (n0 : FuncId) (x : IterAnn) (h : A.iterIn = λ _ _ => none) (h2 : A.iter = λ g => if g = n0 then some x else none) (hΓ : GOk Try.prog x.ann.Γ) (hf : Try.prog.funcs[n0]? = some x.fn) (hname : (x.fn.name == "runtime.NumGoroutine") = false) (hb : x.fn.body = some x.code) : AGR Try.prog A := λ gs g y e => by
 rw[Ann.iterAt,h] at e
 simp only[h2] at e
 split at e
 ·rename_i hg
  cases e;subst hg
  exact⟨hΓ,ATO hf hname hb,hf,hb⟩
 ·cases e
theorem VD(C:Ctr)(A:C.α->Ann)(ren:List (Nat×Nat))(fz:List Nat){g:FuncId}{fn:Func}(hf:Try.prog.funcs[g]?=some fn)(hok:∀a,okFn (A a) fn (C.xs a) (C.L a) (C.keep a)=true)(hΓ:∀a,GOk Try.prog (A a).Γ)
  (h:∀a,FT (C.pre a)->BQ Try.prog (A a) fn (AI fn) (C.xs a) (AD (C.L a)) (C.val a) (C.keep a) ren fz) (hI:∀a,AGR Try.prog (A a)) (dec:List AVal->Heap->Option (C.α×List (Nat×Nat)×List Nat)):AJ Try.prog g (C.spec dec):=
 Ctr.spec_ok (λa ha=>Mn hf (hok a) (hΓ a) (h a ha) (hI a)) dec
theorem okT(C:Ctr){g:FuncId}(h:∀a,FT (C.pre a)->FnT Try.prog g (C.xs a) (AD (C.L a)) (C.val a) (C.keep a))(dec:List AVal->Heap->Option (C.α×List (Nat×Nat)×List Nat)):AJ Try.prog g (C.spec dec):=Ctr.spec_ok h dec
end Go.Bal

namespace Go.Bal
open Go Go.Sym Go.Proofs
abbrev n_in:FuncId:=77
noncomputable abbrev F_in:Func:=Tryz.f77
theorem CSH:Try.prog.funcs[n_in]?=some F_in:=Tryz.func77
abbrev n_eG:FuncId:=89
noncomputable abbrev F_eG:Func:=Tryz.f89
theorem CME:Try.prog.funcs[n_eG]?=some F_eG:=Tryz.func89
abbrev n_eI:FuncId:=107
noncomputable abbrev F_eI:Func:=Tryz.f107
theorem CSC:Try.prog.funcs[n_eI]?=some F_eI:=Tryz.func107
abbrev ABD:FuncId:=120
noncomputable abbrev BBW:Func:=Tryz.f120
theorem BTV:Try.prog.funcs[ABD]?=some BBW:=Tryz.func120
abbrev BFE:FuncId:=129
noncomputable abbrev BVR:Func:=Tryz.f129
theorem COP:Try.prog.funcs[BFE]?=some BVR:=Tryz.func129
abbrev BCU:FuncId:=119
noncomputable abbrev BCA:Func:=Tryz.f119
theorem BYX:Try.prog.funcs[BCU]?=some BCA:=Tryz.func119
abbrev BZK:FuncId:=128
noncomputable abbrev CAE:Func:=Tryz.f128
theorem CPA:Try.prog.funcs[BZK]?=some CAE:=Tryz.func128
abbrev BBT:FuncId:=134
noncomputable abbrev BDD:Func:=Tryz.f134
theorem CCQ:Try.prog.funcs[BBT]?=some BDD:=Tryz.func134
abbrev CBL:FuncId:=140
noncomputable abbrev BUY:Func:=Tryz.f140
theorem CQB:Try.prog.funcs[CBL]?=some BUY:=Tryz.func140
abbrev BNW:FuncId:=90
noncomputable abbrev BZI:Func:=Tryz.f90
theorem CPK:Try.prog.funcs[BNW]?=some BZI:=Tryz.func90
abbrev BKI:FuncId:=123
noncomputable abbrev CCA:Func:=Tryz.f123
theorem CQC:Try.prog.funcs[BKI]?=some CCA:=Tryz.func123
abbrev BCO:FuncId:=93
noncomputable abbrev BZR:Func:=Tryz.f93
theorem CQP:Try.prog.funcs[BCO]?=some BZR:=Tryz.func93
abbrev nS:FuncId:=38
noncomputable abbrev AZF:Func:=Tryz.f38
theorem BYJ:Try.prog.funcs[nS]?=some AZF:=Tryz.func38
abbrev ASD:FuncId:=91
noncomputable abbrev AOU:Func:=Tryz.f91
theorem BQO:Try.prog.funcs[ASD]?=some AOU:=Tryz.func91
abbrev U3:FuncId:=118
noncomputable abbrev N8:Func:=Tryz.f118
theorem BCT:Try.prog.funcs[U3]?=some N8:=Tryz.func118
abbrev ALN:FuncId:=87
noncomputable abbrev AZN:Func:=Tryz.f87
theorem CBP:Try.prog.funcs[ALN]?=some AZN:=Tryz.func87
abbrev xU:FuncId:=82
noncomputable abbrev AEE:Func:=Tryz.f82
theorem BHX:Try.prog.funcs[xU]?=some AEE:=Tryz.func82
abbrev ATU:FuncId:=95
noncomputable abbrev BYC:Func:=Tryz.f95
theorem COU:Try.prog.funcs[ATU]?=some BYC:=Tryz.func95
abbrev vW:FuncId:=163
noncomputable abbrev AGP:Func:=Tryz.f163
theorem BGH:Try.prog.funcs[vW]?=some AGP:=Tryz.func163
abbrev ALU:FuncId:=162
noncomputable abbrev AZV:Func:=Tryz.f162
theorem BYI:Try.prog.funcs[ALU]?=some AZV:=Tryz.func162
abbrev AVK:FuncId:=97
noncomputable abbrev BHE:Func:=Tryz.f97
theorem CFY:Try.prog.funcs[AVK]?=some BHE:=Tryz.func97
abbrev BJP:FuncId:=124
noncomputable abbrev BGO:Func:=Tryz.f124
theorem CEO:Try.prog.funcs[BJP]?=some BGO:=Tryz.func124
abbrev sV:FuncId:=67
noncomputable abbrev BIV:Func:=Tryz.f67
theorem CFC:Try.prog.funcs[sV]?=some BIV:=Tryz.func67
abbrev AZU:FuncId:=136
noncomputable abbrev AVL:Func:=Tryz.f136
theorem CCE:Try.prog.funcs[AZU]?=some AVL:=Tryz.func136
abbrev AEY:FuncId:=112
noncomputable abbrev BJH:Func:=Tryz.f112
theorem CFU:Try.prog.funcs[AEY]?=some BJH:=Tryz.func112
abbrev BHQ:FuncId:=137
noncomputable abbrev BIS:Func:=Tryz.f137
theorem CIL:Try.prog.funcs[BHQ]?=some BIS:=Tryz.func137
abbrev ALY:FuncId:=96
noncomputable abbrev AZC:Func:=Tryz.f96
theorem BVZ:Try.prog.funcs[ALY]?=some AZC:=Tryz.func96
abbrev ACE:FuncId:=98
noncomputable abbrev AOZ:Func:=Tryz.f98
theorem BRR:Try.prog.funcs[ACE]?=some AOZ:=Tryz.func98
abbrev kS:FuncId:=101
noncomputable abbrev BAU:Func:=Tryz.f101
theorem CDG:Try.prog.funcs[kS]?=some BAU:=Tryz.func101
abbrev AQD:FuncId:=116
noncomputable abbrev BIP:Func:=Tryz.f116
theorem CHC:Try.prog.funcs[AQD]?=some BIP:=Tryz.func116
abbrev AZY:FuncId:=133
noncomputable abbrev ARI:Func:=Tryz.f133
theorem BNH:Try.prog.funcs[AZY]?=some ARI:=Tryz.func133
abbrev ARY:FuncId:=142
noncomputable abbrev ARZ:Func:=Tryz.f142
theorem BMO:Try.prog.funcs[ARY]?=some ARZ:=Tryz.func142
abbrev vG:FuncId:=100
noncomputable abbrev AFU:Func:=Tryz.f100
theorem BIC:Try.prog.funcs[vG]?=some AFU:=Tryz.func100
abbrev Cr:FuncId:=125
noncomputable abbrev Zx:Func:=Tryz.f125
theorem sR:Try.prog.funcs[Cr]?=some Zx:=Tryz.func125
abbrev iM:FuncId:=99
noncomputable abbrev AGT:Func:=Tryz.f99
theorem BFZ:Try.prog.funcs[iM]?=some AGT:=Tryz.func99
abbrev AFL:FuncId:=52
noncomputable abbrev BGS:Func:=Tryz.f52
theorem CDL:Try.prog.funcs[AFL]?=some BGS:=Tryz.func52
abbrev Sz:FuncId:=50
noncomputable abbrev uK:Func:=Tryz.f50
theorem AUX:Try.prog.funcs[Sz]?=some uK:=Tryz.func50
abbrev ACW:FuncId:=51
noncomputable abbrev ASM:Func:=Tryz.f51
theorem BQF:Try.prog.funcs[ACW]?=some ASM:=Tryz.func51
abbrev AHW:FuncId:=12
noncomputable abbrev kJ:Func:=Tryz.f12
theorem ARP:Try.prog.funcs[AHW]?=some kJ:=Tryz.func12
abbrev Wx:FuncId:=64
noncomputable abbrev AMI:Func:=Tryz.f64
theorem BSG:Try.prog.funcs[Wx]?=some AMI:=Tryz.func64
abbrev xO:FuncId:=63
noncomputable abbrev AXI:Func:=Tryz.f63
theorem BXB:Try.prog.funcs[xO]?=some AXI:=Tryz.func63
abbrev AAR:FuncId:=108
noncomputable abbrev ANC:Func:=Tryz.f108
theorem BSK:Try.prog.funcs[AAR]?=some ANC:=Tryz.func108
abbrev gV:FuncId:=110
noncomputable abbrev AOO:Func:=Tryz.f110
theorem BRK:Try.prog.funcs[gV]?=some AOO:=Tryz.func110
abbrev ARN:FuncId:=109
noncomputable abbrev AMJ:Func:=Tryz.f109
theorem BQT:Try.prog.funcs[ARN]?=some AMJ:=Tryz.func109
abbrev AWQ:FuncId:=20
noncomputable abbrev BGA:Func:=Tryz.f20
theorem CEK:Try.prog.funcs[AWQ]?=some BGA:=Tryz.func20
abbrev kC:FuncId:=56
noncomputable abbrev AQS:Func:=Tryz.f56
theorem BSI:Try.prog.funcs[kC]?=some AQS:=Tryz.func56
abbrev Ej:FuncId:=104
noncomputable abbrev ADW:Func:=Tryz.f104
theorem BHB:Try.prog.funcs[Ej]?=some ADW:=Tryz.func104
abbrev ADJ:FuncId:=105
noncomputable abbrev AEJ:Func:=Tryz.f105
theorem BJI:Try.prog.funcs[ADJ]?=some AEJ:=Tryz.func105
abbrev BTK:FuncId:=103
noncomputable abbrev BXS:Func:=Tryz.f103
theorem CNS:Try.prog.funcs[BTK]?=some BXS:=Tryz.func103
abbrev BLG:FuncId:=126
noncomputable abbrev CDE:Func:=Tryz.f126
theorem CNX:Try.prog.funcs[BLG]?=some CDE:=Tryz.func126
abbrev BGG:FuncId:=138
noncomputable abbrev BHM:Func:=Tryz.f138
theorem CHY:Try.prog.funcs[BGG]?=some BHM:=Tryz.func138
abbrev AYY:FuncId:=139
noncomputable abbrev BIO:Func:=Tryz.f139
theorem CDY:Try.prog.funcs[AYY]?=some BIO:=Tryz.func139
abbrev BHP:FuncId:=143
noncomputable abbrev BGV:Func:=Tryz.f143
theorem CFI:Try.prog.funcs[BHP]?=some BGV:=Tryz.func143
abbrev BHH:FuncId:=145
noncomputable abbrev BHA:Func:=Tryz.f145
theorem CDQ:Try.prog.funcs[BHH]?=some BHA:=Tryz.func145
abbrev AVF:FuncId:=65
noncomputable abbrev BCC:Func:=Tryz.f65
theorem BYS:Try.prog.funcs[AVF]?=some BCC:=Tryz.func65
abbrev ATJ:FuncId:=111
noncomputable abbrev BDI:Func:=Tryz.f111
theorem CAC:Try.prog.funcs[ATJ]?=some BDI:=Tryz.func111
abbrev ANW:FuncId:=130
noncomputable abbrev AOA:Func:=Tryz.f130
theorem BNE:Try.prog.funcs[ANW]?=some AOA:=Tryz.func130
abbrev AWI:FuncId:=131
noncomputable abbrev BHN:Func:=Tryz.f131
theorem CIT:Try.prog.funcs[AWI]?=some BHN:=Tryz.func131
abbrev BJG:FuncId:=141
noncomputable abbrev BGT:Func:=Tryz.f141
theorem CGY:Try.prog.funcs[BJG]?=some BGT:=Tryz.func141
abbrev BFW:FuncId:=144
noncomputable abbrev BHR:Func:=Tryz.f144
theorem CEL:Try.prog.funcs[BFW]?=some BHR:=Tryz.func144
abbrev ADQ:FuncId:=106
noncomputable abbrev AER:Func:=Tryz.f106
theorem BJE:Try.prog.funcs[ADQ]?=some AER:=Tryz.func106
abbrev lZ:FuncId:=127
noncomputable abbrev E3:Func:=Tryz.f127
theorem BCQ:Try.prog.funcs[lZ]?=some E3:=Tryz.func127
abbrev AWN:FuncId:=14
noncomputable abbrev BKE:Func:=Tryz.f14
theorem CIX:Try.prog.funcs[AWN]?=some BKE:=Tryz.func14
abbrev ALW:FuncId:=16
noncomputable abbrev BAO:Func:=Tryz.f16
theorem CCI:Try.prog.funcs[ALW]?=some BAO:=Tryz.func16
abbrev ACJ:FuncId:=22
noncomputable abbrev rI:Func:=Tryz.f22
theorem ATS:Try.prog.funcs[ACJ]?=some rI:=Tryz.func22
abbrev SN:FuncId:=66
noncomputable abbrev ADN:Func:=Tryz.f66
theorem BIU:Try.prog.funcs[SN]?=some ADN:=Tryz.func66
abbrev BJV:FuncId:=72
noncomputable abbrev BJL:Func:=Tryz.f72
theorem CJD:Try.prog.funcs[BJV]?=some BJL:=Tryz.func72
abbrev Bm:FuncId:=114
noncomputable abbrev AYB:Func:=Tryz.f114
theorem BTW:Try.prog.funcs[Bm]?=some AYB:=Tryz.func114
abbrev BFN:FuncId:=73
noncomputable abbrev BGP:Func:=Tryz.f73
theorem CGU:Try.prog.funcs[BFN]?=some BGP:=Tryz.func73
abbrev Bo:FuncId:=115
noncomputable abbrev AZD:Func:=Tryz.f115
theorem BUP:Try.prog.funcs[Bo]?=some AZD:=Tryz.func115
abbrev ABH:FuncId:=78
noncomputable abbrev ABW:Func:=Tryz.f78
theorem BFC:Try.prog.funcs[ABH]?=some ABW:=Tryz.func78
abbrev ALT:FuncId:=117
noncomputable abbrev ABV:Func:=Tryz.f117
theorem BCD:Try.prog.funcs[ALT]?=some ABV:=Tryz.func117
abbrev AXN:FuncId:=74
noncomputable abbrev AQQ:Func:=Tryz.f74
theorem BPX:Try.prog.funcs[AXN]?=some AQQ:=Tryz.func74
abbrev Zt:FuncId:=69
noncomputable abbrev APD:Func:=Tryz.f69
theorem BRC:Try.prog.funcs[Zt]?=some APD:=Tryz.func69
abbrev Zz:FuncId:=68
noncomputable abbrev aH:Func:=Tryz.f68
theorem AED:Try.prog.funcs[Zz]?=some aH:=Tryz.func68
abbrev BIJ:FuncId:=26
noncomputable abbrev R5:Func:=Tryz.f26
theorem AVQ:Try.prog.funcs[BIJ]?=some R5:=Tryz.func26
abbrev ARL:FuncId:=79
noncomputable abbrev BHU:Func:=Tryz.f79
theorem CES:Try.prog.funcs[ARL]?=some BHU:=Tryz.func79
abbrev A5:FuncId:=80
noncomputable abbrev oP:Func:=Tryz.f80
theorem ALB:Try.prog.funcs[A5]?=some oP:=Tryz.func80
abbrev ASJ:FuncId:=31
noncomputable abbrev tL:Func:=Tryz.f31
theorem AUH:Try.prog.funcs[ASJ]?=some tL:=Tryz.func31
abbrev SO:FuncId:=81
noncomputable abbrev AGJ:Func:=Tryz.f81
theorem BGJ:Try.prog.funcs[SO]?=some AGJ:=Tryz.func81
abbrev SP:FuncId:=83
noncomputable abbrev ADK:Func:=Tryz.f83
theorem BHS:Try.prog.funcs[SP]?=some ADK:=Tryz.func83
abbrev BSR:FuncId:=33
noncomputable abbrev BDP:Func:=Tryz.f33
theorem BWT:Try.prog.funcs[BSR]?=some BDP:=Tryz.func33
abbrev AFA:FuncId:=84
noncomputable abbrev BKC:Func:=Tryz.f84
theorem CGT:Try.prog.funcs[AFA]?=some BKC:=Tryz.func84
abbrev Rg:FuncId:=85
noncomputable abbrev BIX:Func:=Tryz.f85
theorem CEN:Try.prog.funcs[Rg]?=some BIX:=Tryz.func85
abbrev Og:FuncId:=86
noncomputable abbrev BHI:Func:=Tryz.f86
theorem CFB:Try.prog.funcs[Og]?=some BHI:=Tryz.func86
abbrev AVS:FuncId:=8
noncomputable abbrev AXO:Func:=Tryz.f8
theorem BZX:Try.prog.funcs[AVS]?=some AXO:=Tryz.func8
abbrev ACL:FuncId:=9
noncomputable abbrev AVI:Func:=Tryz.f9
theorem BXQ:Try.prog.funcs[ACL]?=some AVI:=Tryz.func9
abbrev AYS:FuncId:=7
noncomputable abbrev AXM:Func:=Tryz.f7
theorem BWI:Try.prog.funcs[AYS]?=some AXM:=Tryz.func7
abbrev AVW:FuncId:=48
noncomputable abbrev AYM:Func:=Tryz.f48
theorem BUV:Try.prog.funcs[AVW]?=some AYM:=Tryz.func48
abbrev S7:FuncId:=49
noncomputable abbrev P9:Func:=Tryz.f49
theorem BCJ:Try.prog.funcs[S7]?=some P9:=Tryz.func49
-- none: nilometer/nilometerlaw04.RatingRises
-- none: nilometer/nilometerlaw04.RatingScaled
-- none: nilometer/nilometerlaw04.RatingMore
-- none: nilometer/nilometerlaw04.RatingFewest
-- none: nilometer/nilometerlaw04.RatingPassed
-- none: nilometer/nilometerlaw04.RatingReached
abbrev W3:FuncId:=70
noncomputable abbrev BJT:Func:=Tryz.f70
theorem CDV:Try.prog.funcs[W3]?=some BJT:=Tryz.func70
abbrev Tc:FuncId:=39
noncomputable abbrev AOP:Func:=Tryz.f39
theorem BQL:Try.prog.funcs[Tc]?=some AOP:=Tryz.func39
abbrev ABZ:FuncId:=94
noncomputable abbrev AXH:Func:=Tryz.f94
theorem BYH:Try.prog.funcs[ABZ]?=some AXH:=Tryz.func94
abbrev ANO:FuncId:=75
noncomputable abbrev ASF:Func:=Tryz.f75
theorem BQQ:Try.prog.funcs[ANO]?=some ASF:=Tryz.func75
abbrev AWP:FuncId:=41
noncomputable abbrev AWB:Func:=Tryz.f41
theorem BTT:Try.prog.funcs[AWP]?=some AWB:=Tryz.func41
abbrev BAM:FuncId:=88
noncomputable abbrev BHG:Func:=Tryz.f88
theorem CIW:Try.prog.funcs[BAM]?=some BHG:=Tryz.func88
abbrev BFS:FuncId:=60
noncomputable abbrev BJZ:Func:=Tryz.f60
theorem CEZ:Try.prog.funcs[BFS]?=some BJZ:=Tryz.func60
abbrev BFT:FuncId:=58
noncomputable abbrev BFR:Func:=Tryz.f58
theorem CGI:Try.prog.funcs[BFT]?=some BFR:=Tryz.func58
abbrev AKY:FuncId:=59
noncomputable abbrev AXF:Func:=Tryz.f59
theorem CBH:Try.prog.funcs[AKY]?=some AXF:=Tryz.func59
abbrev BJQ:FuncId:=17
noncomputable abbrev BIA:Func:=Tryz.f17
theorem CIV:Try.prog.funcs[BJQ]?=some BIA:=Tryz.func17
abbrev BHW:FuncId:=11
noncomputable abbrev BJD:Func:=Tryz.f11
theorem CHL:Try.prog.funcs[BHW]?=some BJD:=Tryz.func11
abbrev AZP:FuncId:=30
noncomputable abbrev AZK:Func:=Tryz.f30
theorem BVD:Try.prog.funcs[AZP]?=some AZK:=Tryz.func30
abbrev AOJ:FuncId:=18
noncomputable abbrev AOK:Func:=Tryz.f18
theorem BQC:Try.prog.funcs[AOJ]?=some AOK:=Tryz.func18
abbrev AVR:FuncId:=23
noncomputable abbrev AZE:Func:=Tryz.f23
theorem BTR:Try.prog.funcs[AVR]?=some AZE:=Tryz.func23
abbrev ALJ:FuncId:=24
noncomputable abbrev BBF:Func:=Tryz.f24
theorem BUF:Try.prog.funcs[ALJ]?=some BBF:=Tryz.func24
abbrev AQW:FuncId:=53
noncomputable abbrev ARC:Func:=Tryz.f53
theorem BRD:Try.prog.funcs[AQW]?=some ARC:=Tryz.func53
abbrev ALK:FuncId:=54
noncomputable abbrev AZT:Func:=Tryz.f54
theorem BVA:Try.prog.funcs[ALK]?=some AZT:=Tryz.func54
abbrev BGI:FuncId:=55
noncomputable abbrev BHT:Func:=Tryz.f55
theorem CFA:Try.prog.funcs[BGI]?=some BHT:=Tryz.func55
abbrev AZA:FuncId:=57
noncomputable abbrev BIK:Func:=Tryz.f57
theorem CHK:Try.prog.funcs[AZA]?=some BIK:=Tryz.func57
abbrev BAG:FuncId:=102
noncomputable abbrev BIM:Func:=Tryz.f102
theorem CEY:Try.prog.funcs[BAG]?=some BIM:=Tryz.func102
abbrev AXL:FuncId:=13
noncomputable abbrev AVX:Func:=Tryz.f13
theorem CAK:Try.prog.funcs[AXL]?=some AVX:=Tryz.func13
abbrev APP:FuncId:=15
noncomputable abbrev AMY:Func:=Tryz.f15
theorem BQE:Try.prog.funcs[APP]?=some AMY:=Tryz.func15
abbrev AYT:FuncId:=61
noncomputable abbrev BGY:Func:=Tryz.f61
theorem CIY:Try.prog.funcs[AYT]?=some BGY:=Tryz.func61
abbrev ALE:FuncId:=62
noncomputable abbrev AYX:Func:=Tryz.f62
theorem BST:Try.prog.funcs[ALE]?=some AYX:=Tryz.func62
abbrev AYE:FuncId:=21
noncomputable abbrev AZO:Func:=Tryz.f21
theorem CCH:Try.prog.funcs[AYE]?=some AZO:=Tryz.func21
abbrev BAV:FuncId:=19
noncomputable abbrev BAP:Func:=Tryz.f19
theorem BVP:Try.prog.funcs[BAV]?=some BAP:=Tryz.func19
abbrev AOL:FuncId:=10
noncomputable abbrev AOQ:Func:=Tryz.f10
theorem BRG:Try.prog.funcs[AOL]?=some AOQ:=Tryz.func10
abbrev APZ:FuncId:=25
noncomputable abbrev AOS:Func:=Tryz.f25
theorem BPZ:Try.prog.funcs[APZ]?=some AOS:=Tryz.func25
abbrev BCY:FuncId:=3
noncomputable abbrev AMZ:Func:=Tryz.f3
theorem BQX:Try.prog.funcs[BCY]?=some AMZ:=Tryz.func3
end Go.Bal
