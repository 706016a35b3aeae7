/- Package rating: data, and how they read. -/
import Derived.Test.YtbmlgdlbffmjjaaGreatRatN
set_option linter.unusedVariables false
set_option linter.unusedSimpArgs false
namespace Go.Bal
open Go Go.Sym Go.Proofs
structure Gau where
 st:Int
 lo:Int
 hi:Int
 deriving Inhabited,DecidableEq
structure Pt where
 st:Int
 fl:Int
 deriving Inhabited,DecidableEq
structure Ln where
 a0:Int
 a1:Int
 b0:Int
 b1:Int
 deriving Inhabited,DecidableEq
structure Rt where
 n:Int
 d:Int
 deriving Inhabited,DecidableEq
structure Bnd where
 lo:Rt
 hi:Rt
 deriving Inhabited,DecidableEq
structure Rtg where
 b:List Int
 l:List Ln
 deriving Inhabited,DecidableEq
def eGau(g:Gau):DVal:=.agg [ES g.st,ES g.lo,ES g.hi]
def ePt(p:Pt):DVal:=.agg [ES p.st,ES p.fl]
def eLn(x:Ln):DVal:=.agg [ES x.a0,ES x.a1,ES x.b0,ES x.b1]
def eRt(r:Rt):DVal:=.agg [ES r.n,ES r.d]
def eBnd(b:Bnd):DVal:=.agg [ES b.lo.n,ES b.lo.d,ES b.hi.n,ES b.hi.d]
def KD(l:List Gau):DVal:=lst 3 l.length λi=>eGau (gD l i)
def ePts(l:List Pt):DVal:=lst 2 l.length λi=>ePt (gD l i)
def K4(l:List Ln):DVal:=lst 4 l.length λi=>eLn (gD l i)
def eRtg(r:Rtg):DVal:=.agg [IM r.b,K4 r.l]
def gJ:DVal->Gau
 | .agg [a,b,c]=>⟨LR a,LR b,LR c⟩
 |_=>default
def dPt:DVal->Pt
 | .agg [a,b]=>⟨LR a,LR b⟩
 |_=>default
def dLn:DVal->Ln
 | .agg [a,b,c,d]=>⟨LR a,LR b,LR c,LR d⟩
 |_=>default
def dRt:DVal->Rt
 | .agg [a,b]=>⟨LR a,LR b⟩
 |_=>default
theorem COH(g:Gau):gJ (eGau g)=g:=rfl
theorem CRU(g:Pt):dPt (ePt g)=g:=rfl
theorem CRH(g:Ln):dLn (eLn g)=g:=rfl
theorem CTV(g:Rt):dRt (eRt g)=g:=rfl
def AKV(a:AVal)(H:Heap):Option (List Gau×List Nat):=match xY a H with
 |some (n,g,f)=>some (WA n λi=>gJ (g i),f)
 |none=>none
def dPts(a:AVal)(H:Heap):Option (List Pt×List Nat):=match xY a H with
 |some (n,g,f)=>some (WA n λi=>dPt (g i),f)
 |none=>none
def dLns(a:AVal)(H:Heap):Option (List Ln×List Nat):=match xY a H with
 |some (n,g,f)=>some (WA n λi=>dLn (g i),f)
 |none=>none
def dRtg:AVal->Heap->Option (Rtg×List Nat)
 | .d (.agg [.list _ n f _,.list _ m g _]),_=>some (⟨WA n λi=>LR (f i),WA m λi=>dLn (g i)⟩,[])
 | .agg [a,b],H=>match I7 a H,dLns b H with
  |some (x,f1),some (y,f2)=>some (⟨x,y⟩,f1 ++ f2)
  |_,_=>none
 |_,_=>none
def pD{α:Type}(dec:List AVal->Option α)(val:α->AVal)(pre:α->List Prop:=λ_=>[]):Sym.Spec:=J5 λxs=>match dec xs with
 |some a=>some (val a,pre a)
 |none=>none
theorem MC{α:Type}{g:FuncId}{dec:List AVal->Option α}{val:α->AVal}{pre:α->List Prop}(enc:α->List AVal)(hde:∀xs a,dec xs=some a->xs=enc a)(h:∀a,CR (pre a)->FnT Try.prog g (enc a) (AC []) (val a) []):AH Try.prog g (pD dec val pre):=AAD λxs v p hf hp=>by
 split at hf
 ·rename_i a ha
  cases hf
  rw[hde xs a ha];exact h a hp
 ·cases hf
def dI1:List AVal->Option Int
 |[.d (.v (.int .i64 a))]=>some a
 |_=>none
def xI1(a:Int):List AVal:=[.int a]
theorem hI1(xs:List AVal)(a:Int)(h:dI1 xs=some a):xs=xI1 a:=by
 unfold dI1 at h;split at h<;>cases h;rfl
structure I2 where
 a:Int
 b:Int
structure I3 where
 a:Int
 b:Int
 c:Int
def dI2:List AVal->Option I2
 |[.d (.v (.int .i64 a)),.d (.v (.int .i64 b))]=>some ⟨a,b⟩
 |_=>none
def xI2(x:I2):List AVal:=[.int x.a,.int x.b]
theorem hI2(xs:List AVal)(a:I2)(h:dI2 xs=some a):xs=xI2 a:=by
 unfold dI2 at h;split at h<;>cases h;rfl
def dI3:List AVal->Option I3
 |[.d (.v (.int .i64 a)),.d (.v (.int .i64 b)),.d (.v (.int .i64 c))]=>some ⟨a,b,c⟩
 |_=>none
def xI3(x:I3):List AVal:=[.int x.a,.int x.b,.int x.c]
theorem hI3(xs:List AVal)(a:I3)(h:dI3 xs=some a):xs=xI3 a:=by
 unfold dI3 at h;split at h<;>cases h;rfl
def dG1:List AVal->Option Gau
 |[.d (.agg [.v (.int .i64 a),.v (.int .i64 b),.v (.int .i64 c)])]=>some ⟨a,b,c⟩
 |_=>none
def xG1(g:Gau):List AVal:=[.d (eGau g)]
theorem hG1(xs:List AVal)(a:Gau)(h:dG1 xs=some a):xs=xG1 a:=by
 unfold dG1 at h;split at h<;>cases h;rfl
def dP1:List AVal->Option Pt
 |[.d (.agg [.v (.int .i64 a),.v (.int .i64 b)])]=>some ⟨a,b⟩
 |_=>none
def xP1(g:Pt):List AVal:=[.d (ePt g)]
theorem hP1(xs:List AVal)(a:Pt)(h:dP1 xs=some a):xs=xP1 a:=by
 unfold dP1 at h;split at h<;>cases h;rfl
def dL1:List AVal->Option Ln
 |[.d (.agg [.v (.int .i64 a),.v (.int .i64 b),.v (.int .i64 c),.v (.int .i64 d)])]=>some ⟨a,b,c,d⟩
 |_=>none
def xL1(g:Ln):List AVal:=[.d (eLn g)]
theorem hL1(xs:List AVal)(a:Ln)(h:dL1 xs=some a):xs=xL1 a:=by
 unfold dL1 at h;split at h<;>cases h;rfl
structure LnI where
 x:Ln
 s:Int
def dLI:List AVal->Option LnI
 |[.d (.agg [.v (.int .i64 a),.v (.int .i64 b),.v (.int .i64 c),.v (.int .i64 d)]),.d (.v (.int .i64 s))]=>some ⟨⟨a,b,c,d⟩,s⟩
 |_=>none
def xLI(a:LnI):List AVal:=[.d (eLn a.x),.int a.s]
theorem hLI(xs:List AVal)(a:LnI)(h:dLI xs=some a):xs=xLI a:=by
 unfold dLI at h;split at h<;>cases h;rfl
structure LnG where
 x:Ln
 g:Gau
def dLG:List AVal->Option LnG
 |[.d (.agg [.v (.int .i64 a),.v (.int .i64 b),.v (.int .i64 c),.v (.int .i64 d)]),.d (.agg [.v (.int .i64 p),.v (.int .i64 q),.v (.int .i64 r)])]=>some ⟨⟨a,b,c,d⟩,⟨p,q,r⟩⟩
 |_=>none
def xLG(a:LnG):List AVal:=[.d (eLn a.x),.d (eGau a.g)]
theorem hLG(xs:List AVal)(a:LnG)(h:dLG xs=some a):xs=xLG a:=by
 unfold dLG at h;split at h<;>cases h;rfl
def dR1:List AVal->Option Rt
 |[.d (.agg [.v (.int .i64 a),.v (.int .i64 b)])]=>some ⟨a,b⟩
 |_=>none
def xR1(g:Rt):List AVal:=[.d (eRt g)]
theorem hR1(xs:List AVal)(a:Rt)(h:dR1 xs=some a):xs=xR1 a:=by
 unfold dR1 at h;split at h<;>cases h;rfl
def dR2:List AVal->Option Bnd
 |[.d (.agg [.v (.int .i64 a),.v (.int .i64 b)]),.d (.agg [.v (.int .i64 c),.v (.int .i64 d)])]=>some ⟨⟨a,b⟩,⟨c,d⟩⟩
 |_=>none
def xR2(g:Bnd):List AVal:=[.d (eRt g.lo),.d (eRt g.hi)]
theorem hR2(xs:List AVal)(a:Bnd)(h:dR2 xs=some a):xs=xR2 a:=by
 unfold dR2 at h;split at h<;>cases h;rfl
def orS(s t:Sym.Spec):Sym.Spec:=λxs H r=>match s xs H r with
 |some x=>some x
 |none=>t xs H r
theorem BTD{g:FuncId}{s t:Sym.Spec}(h1:AH Try.prog g s)(h2:AH Try.prog g t):AH Try.prog g (orS s t):=λxs H r x hx hp=>by
 unfold orS at hx
 split at hx
 ·rename_i y hy;cases hx;exact h1 xs H r _ hy hp
 ·exact h2 xs H r x hx hp
theorem mulb{a b A B:Int}(h1:0<=a)(h2:a<=A)(h3:0<=b)(h4:b<=B):0<=a*b/\a*b<=A*B:=
 ⟨Int.mul_nonneg h1 h3,Int.mul_le_mul h2 h4 h3 (by omega)⟩
theorem CTE{a b A B:Int}(h1:-A<=a)(h2:a<=A)(h3:-B<=b)(h4:b<=B):-(A*B)<=a*b/\a*b<=A*B:=by
 have hA:0<=A:=by omega
 have hB:0<=B:=by omega
 rcases Int.le_total 0 a with ha | ha<;>rcases Int.le_total 0 b with hb | hb
 ·have:=mulb ha h2 hb h4
  have:0<=A*B:=Int.mul_nonneg hA hB
  omega
 ·have:=mulb ha h2 (show 0 <= -b by omega) (show -b<=B by omega)
  rw[Int.mul_neg] at this
  have:0<=A*B:=Int.mul_nonneg hA hB
  omega
 ·have:=mulb (show 0 <= -a by omega) (show -a<=A by omega) hb h4
  rw[Int.neg_mul] at this
  have:0<=A*B:=Int.mul_nonneg hA hB
  omega
 ·have:=mulb (show 0 <= -a by omega) (show -a<=A by omega) (show 0 <= -b by omega) (show -b<=B by omega)
  rw[Int.neg_mul_neg] at this
  have:0<=A*B:=Int.mul_nonneg hA hB
  omega
theorem CC:((∀{b:Bool} {p q:Prop},(bif b then p else q)=((b=true->p)/\(b=false->q)))/\(∀(p:Prop),(p/\p)=p)/\(∀(p:Prop),(True/\p)=p)/\(∀(p:Prop),(p/\True)=p)/\(∀(p:Prop),(True->p)=p)/\(∀{p:Prop} [inst:Decidable p],(decide p=true)=p)/\(∀{p:Prop} {x:Decidable p},decide p=false↔¬p))/\(∀(n:Nat),(n:Int).toNat=n)/\(∀(s:Span),dX (UJ s)=s)/\(∀(n:Int),LR (ES n)=n)/\(∀(g:Gau),gJ (eGau g)=g)/\(∀(g:Pt),dPt (ePt g)=g)/\(∀(g:Ln),dLn (eLn g)=g)/\(∀(g:Rt),dRt (eRt g)=g)/\(∀(n:Nat),0+n=n)/\(∀(a:Int),0-a=-a)/\(∀{x y:Nat},x.le y=(x<=y))/\(∀(n:Nat),n.succ=n+1)/\(∀{n m:Nat},n+1<=m↔n<m)/\(∀(b:Bool),((!b)=true)=(b=false))/\(∀(b:Bool),((!b)=false)=(b=true))/\(∀{α:Type} (n:Nat) (f:Nat->α),(WA n f).length=n)/\(∀(a b:Int),dX (.agg [ES a,ES b])=⟨a,b⟩)/\(∀{α:Type} [Inhabited α] (l:List α),(WA l.length λi=>gD l i)=l):=⟨⟨BFX,and_self,true_and,and_true,true_implies,decide_eq_true_eq,decide_eq_false_iff_not⟩,Int.toNat_natCast,dSpan_eSpan,dInt_eInt,COH,CRU,CRH,CTV,Nat.zero_add,Int.zero_sub,Nat.le_eq,Nat.succ_eq_add_one,Nat.add_one_le_iff,Bool.not_eq_true',Bool.not_eq_false',rng_length,BTR,Fj⟩
theorem CU.{u}:(∀{α:Sort u} (a:α),(a=a)=True)/\(∀(α:Sort u),(α->True)=True)/\(∀{p:Prop} (α:Sort u) [Nonempty α],(α->p)=p):=⟨eq_self,implies_true,λα _=>propext (forall_const α)⟩
end Go.Bal
namespace Go.Bal.DL
open Go.Sym Go
theorem g1(s:Gau):gJ (eGau s)=s:=rfl
theorem g2(s:Pt):dPt (ePt s)=s:=rfl
theorem h1(a b c:Int):gJ (.agg [ES a,ES b,ES c])=Gau.mk a b c:=rfl
theorem h2(a b:Int):dPt (.agg [ES a,ES b])=Pt.mk a b:=rfl
theorem h3(a b c d:Int):dLn (.agg [ES a,ES b,ES c,ES d])=Ln.mk a b c d:=rfl
theorem h4(a b:Int):dRt (.agg [ES a,ES b])=Rt.mk a b:=rfl
theorem k1(s:Gau):Gau.mk s.st s.lo s.hi=s:=rfl
theorem k2(s:Pt):Pt.mk s.st s.fl=s:=rfl
theorem k3(s:Ln):Ln.mk s.a0 s.a1 s.b0 s.b1=s:=rfl
theorem k4(s:Rt):Rt.mk s.n s.d=s:=rfl
end Go.Bal.DL
