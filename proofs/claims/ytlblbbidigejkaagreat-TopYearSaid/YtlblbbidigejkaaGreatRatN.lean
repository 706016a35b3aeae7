/- Functions by name. -/
import Derived.Test.YtlblbbidigejkaaGreatChT6
set_option linter.unusedVariables false
set_option linter.unusedSimpArgs false
namespace Go.Bal
open Go Go.Sym Go.Proofs
-- none: nilometer/rating.every[int]
-- none: nilometer/rating.every[int]$1
-- none: slices.ContainsFunc[[]int,int]
-- none: slices.IndexFunc[[]int,int]
-- none: (nilometer/rating.set).line
-- none: nilometer/rating.Through
-- none: nilometer/rating.isKnot
-- none: nilometer/rating.named
-- none: nilometer/rating.named$1
-- none: nilometer/rating.named$2
-- none: slices.IsSortedFunc[nilometer/rating.set,nilometer/rating.Gauging]
-- none: nilometer/rating.Knot
-- none: nilometer/rating.fewest
-- none: nilometer/rating.fewest$1
-- none: nilometer/rating.fewest$2
-- none: slices.SortStableFunc[[]int,int]
-- none: slices.stableCmpFunc[int]
-- none: slices.insertionSortCmpFunc[int]
-- none: slices.symMergeCmpFunc[int]
-- none: slices.rotateCmpFunc[int]
-- none: slices.swapRangeCmpFunc[int]
-- none: slices.SortStableFunc[[]nilometer/rating.set,nilometer/rating.set]
-- none: slices.stableCmpFunc[nilometer/rating.set]
-- none: slices.insertionSortCmpFunc[nilometer/rating.set]
-- none: slices.symMergeCmpFunc[nilometer/rating.set]
-- none: slices.rotateCmpFunc[nilometer/rating.set]
-- none: slices.swapRangeCmpFunc[nilometer/rating.set]
-- none: nilometer/rating.knotted
-- none: nilometer/rating.knotted$1
-- none: nilometer/rating.Rate
-- none: nilometer/rating.Knots
-- none: nilometer/rating.Proves
-- none: nilometer/rating.Proves$1
-- none: nilometer/rating.Reach
-- none: (*nilometer/rating.book).span
-- none: (*nilometer/rating.book).upTo
-- none: nilometer/rating.Stages
-- none: nilometer/rating.Stages$1
-- none: nilometer/rating.Stages$2
-- none: nilometer/rating.Dry
-- none: nilometer/rating.Dry$1
-- none: nilometer/rating.Dry$2
-- none: nilometer/rating.Dry$3
-- none: nilometer/rating.Widest
-- none: nilometer/nilometerkit.Pick
-- none: nilometer/nilometerkit.Mixed
-- none: nilometer/nilometerkit.Copy[nilometer/rating.Gauging]
-- none: nilometer/nilometerkit.Copy[int]
-- none: nilometer/nilometerkit.Copy[nilometer/rating.Line]
-- none: nilometer/nilometerlaw04.below
-- none: nilometer/nilometerlaw04.sound
-- none: nilometer/nilometerlaw04.awake
-- none: nilometer/nilometerlaw04.Three
-- none: nilometer/nilometerlaw04.fraction
-- none: nilometer/nilometerlaw04.RatingRises
-- none: nilometer/nilometerlaw04.RatingScaled
-- none: nilometer/nilometerlaw04.RatingMore
-- none: nilometer/nilometerlaw04.RatingFewest
-- none: nilometer/nilometerlaw04.RatingPassed
-- none: nilometer/nilometerlaw04.RatingReached
-- none: nilometer/rating.Has
-- none: nilometer/nilometerref04.outside
-- none: nilometer/nilometerref04.Check
-- none: nilometer/nilometerref04.broken
-- none: nilometer/nilometerref04.crooked
-- none: nilometer/nilometerref04.CheckRating
-- none: nilometer/nilometerref04.low
-- none: nilometer/nilometerref04.below
-- none: nilometer/nilometerref04.had
-- none: nilometer/nilometerref04.kept
-- none: nilometer/nilometerref04.Has
-- none: nilometer/nilometerref04.Part
-- none: nilometer/nilometerref04.At
-- none: nilometer/nilometerref04.Passes
-- none: nilometer/nilometerlaw04.Gaugings
-- none: nilometer/nilometerlaw04.line
-- none: nilometer/nilometerlaw04.model
-- none: nilometer/nilometerkit.Same[nilometer/rating.Gauging]
-- none: nilometer/gauge.Flow
-- none: nilometer/gauge.Real
-- none: nilometer/nilometertop.between
-- none: nilometer/nilometertop.inside
-- none: nilometer/gauge.Panels
-- none: nilometer/gauge.plus
-- none: nilometer/gauge.Check
-- none: (nilometer/gauge.Gauging).widths
-- none: (nilometer/gauge.Gauging).widths$1
-- none: nilometer/gauge.in
-- none: nilometer/gauge.times
-- none: nilometer/gauge.just
-- none: nilometer/gauge.shore
-- none: nilometer/gauge.every[nilometer/gauge.Vertical]
-- none: nilometer/gauge.every[nilometer/gauge.Vertical]$1
-- none: slices.ContainsFunc[[]nilometer/gauge.Vertical,nilometer/gauge.Vertical]
-- none: slices.IndexFunc[[]nilometer/gauge.Vertical,nilometer/gauge.Vertical]
-- none: nilometer/gauge.Check$1
-- none: nilometer/gauge.Check$2
-- none: nilometer/gauge.right
-- none: nilometer/gauge.rising
structure Gau where
 st:Int
 lo:Int
 hi:Int
 deriving Inhabited,DecidableEq
structure Pt where
 st:Int
 fl:Int
 deriving Inhabited,DecidableEq
structure Ln where
 a0:Int
 a1:Int
 b0:Int
 b1:Int
 deriving Inhabited,DecidableEq
structure Rt where
 n:Int
 d:Int
 deriving Inhabited,DecidableEq
structure Bnd where
 lo:Rt
 hi:Rt
 deriving Inhabited,DecidableEq
structure Rtg where
 b:List Int
 l:List Ln
 deriving Inhabited,DecidableEq
def eGau(g:Gau):DVal:=.agg [CF g.st,CF g.lo,CF g.hi]
def ePt(p:Pt):DVal:=.agg [CF p.st,CF p.fl]
def eLn(x:Ln):DVal:=.agg [CF x.a0,CF x.a1,CF x.b0,CF x.b1]
def eRt(r:Rt):DVal:=.agg [CF r.n,CF r.d]
def eBnd(b:Bnd):DVal:=.agg [CF b.lo.n,CF b.lo.d,CF b.hi.n,CF b.hi.d]
def TB(l:List Gau):DVal:=lst 3 l.length λi=>eGau (gD l i)
def ePts(l:List Pt):DVal:=lst 2 l.length λi=>ePt (gD l i)
def eLns(l:List Ln):DVal:=lst 4 l.length λi=>eLn (gD l i)
def eRtg(r:Rtg):DVal:=.agg [BM r.b,eLns r.l]
def dGau:DVal->Gau
 | .agg [a,b,c]=>⟨DG a,DG b,DG c⟩
 |_=>default
def dPt:DVal->Pt
 | .agg [a,b]=>⟨DG a,DG b⟩
 |_=>default
def dLn:DVal->Ln
 | .agg [a,b,c,d]=>⟨DG a,DG b,DG c,DG d⟩
 |_=>default
def dRt:DVal->Rt
 | .agg [a,b]=>⟨DG a,DG b⟩
 |_=>default
theorem CWA(g:Gau):dGau (eGau g)=g:=rfl
theorem DDH(g:Pt):dPt (ePt g)=g:=rfl
theorem DDT(g:Ln):dLn (eLn g)=g:=rfl
theorem DAV(g:Rt):dRt (eRt g)=g:=rfl
def BIG(a:AVal)(H:Heap):Option (List Gau×List Nat):=match Ti a H with
 |some (n,g,f)=>some (HQ n λi=>dGau (g i),f)
 |none=>none
def dPts(a:AVal)(H:Heap):Option (List Pt×List Nat):=match Ti a H with
 |some (n,g,f)=>some (HQ n λi=>dPt (g i),f)
 |none=>none
def dLns(a:AVal)(H:Heap):Option (List Ln×List Nat):=match Ti a H with
 |some (n,g,f)=>some (HQ n λi=>dLn (g i),f)
 |none=>none
def dRtg:AVal->Heap->Option (Rtg×List Nat)
 | .d (.agg [.list _ n f _,.list _ m g _]),_=>some (⟨HQ n λi=>DG (f i),HQ m λi=>dLn (g i)⟩,[])
 | .agg [a,b],H=>match S6 a H,dLns b H with
  |some (x,f1),some (y,f2)=>some (⟨x,y⟩,f1 ++ f2)
  |_,_=>none
 |_,_=>none
def pD{α:Type}(dec:List AVal->Option α)(val:α->AVal)(pre:α->List Prop:=λ_=>[]):Sym.Spec:=K2 λxs=>match dec xs with
 |some a=>some (val a,pre a)
 |none=>none
theorem NH{α:Type}{g:FuncId}{dec:List AVal->Option α}{val:α->AVal}{pre:α->List Prop}(enc:α->List AVal)(hde:∀xs a,dec xs=some a->xs=enc a)(h:∀a,BG (pre a)->FnT ZP g (enc a) (AC []) (val a) []):AH ZP g (pD dec val pre):=L6 λxs v p hf hp=>by
 split at hf
 ·rename_i a ha
  cases hf
  rw[hde xs a ha];exact h a hp
 ·cases hf
def dI1:List AVal->Option Int
 |[.d (.v (.int .i64 a))]=>some a
 |_=>none
def xI1(a:Int):List AVal:=[.int a]
theorem hI1(xs:List AVal)(a:Int)(h:dI1 xs=some a):xs=xI1 a:=by
 unfold dI1 at h;split at h<;>cases h;rfl
structure I2 where
 a:Int
 b:Int
structure I3 where
 a:Int
 b:Int
 c:Int
def dI2:List AVal->Option I2
 |[.d (.v (.int .i64 a)),.d (.v (.int .i64 b))]=>some ⟨a,b⟩
 |_=>none
def xI2(x:I2):List AVal:=[.int x.a,.int x.b]
theorem hI2(xs:List AVal)(a:I2)(h:dI2 xs=some a):xs=xI2 a:=by
 unfold dI2 at h;split at h<;>cases h;rfl
def dI3:List AVal->Option I3
 |[.d (.v (.int .i64 a)),.d (.v (.int .i64 b)),.d (.v (.int .i64 c))]=>some ⟨a,b,c⟩
 |_=>none
def xI3(x:I3):List AVal:=[.int x.a,.int x.b,.int x.c]
theorem hI3(xs:List AVal)(a:I3)(h:dI3 xs=some a):xs=xI3 a:=by
 unfold dI3 at h;split at h<;>cases h;rfl
def dG1:List AVal->Option Gau
 |[.d (.agg [.v (.int .i64 a),.v (.int .i64 b),.v (.int .i64 c)])]=>some ⟨a,b,c⟩
 |_=>none
def xG1(g:Gau):List AVal:=[.d (eGau g)]
theorem hG1(xs:List AVal)(a:Gau)(h:dG1 xs=some a):xs=xG1 a:=by
 unfold dG1 at h;split at h<;>cases h;rfl
def dP1:List AVal->Option Pt
 |[.d (.agg [.v (.int .i64 a),.v (.int .i64 b)])]=>some ⟨a,b⟩
 |_=>none
def xP1(g:Pt):List AVal:=[.d (ePt g)]
theorem hP1(xs:List AVal)(a:Pt)(h:dP1 xs=some a):xs=xP1 a:=by
 unfold dP1 at h;split at h<;>cases h;rfl
def dL1:List AVal->Option Ln
 |[.d (.agg [.v (.int .i64 a),.v (.int .i64 b),.v (.int .i64 c),.v (.int .i64 d)])]=>some ⟨a,b,c,d⟩
 |_=>none
def xL1(g:Ln):List AVal:=[.d (eLn g)]
theorem hL1(xs:List AVal)(a:Ln)(h:dL1 xs=some a):xs=xL1 a:=by
 unfold dL1 at h;split at h<;>cases h;rfl
structure LnI where
 x:Ln
 s:Int
def dLI:List AVal->Option LnI
 |[.d (.agg [.v (.int .i64 a),.v (.int .i64 b),.v (.int .i64 c),.v (.int .i64 d)]),.d (.v (.int .i64 s))]=>some ⟨⟨a,b,c,d⟩,s⟩
 |_=>none
def xLI(a:LnI):List AVal:=[.d (eLn a.x),.int a.s]
theorem hLI(xs:List AVal)(a:LnI)(h:dLI xs=some a):xs=xLI a:=by
 unfold dLI at h;split at h<;>cases h;rfl
structure LnG where
 x:Ln
 g:Gau
def dLG:List AVal->Option LnG
 |[.d (.agg [.v (.int .i64 a),.v (.int .i64 b),.v (.int .i64 c),.v (.int .i64 d)]),.d (.agg [.v (.int .i64 p),.v (.int .i64 q),.v (.int .i64 r)])]=>some ⟨⟨a,b,c,d⟩,⟨p,q,r⟩⟩
 |_=>none
def xLG(a:LnG):List AVal:=[.d (eLn a.x),.d (eGau a.g)]
theorem hLG(xs:List AVal)(a:LnG)(h:dLG xs=some a):xs=xLG a:=by
 unfold dLG at h;split at h<;>cases h;rfl
def dR1:List AVal->Option Rt
 |[.d (.agg [.v (.int .i64 a),.v (.int .i64 b)])]=>some ⟨a,b⟩
 |_=>none
def xR1(g:Rt):List AVal:=[.d (eRt g)]
theorem hR1(xs:List AVal)(a:Rt)(h:dR1 xs=some a):xs=xR1 a:=by
 unfold dR1 at h;split at h<;>cases h;rfl
def dR2:List AVal->Option Bnd
 |[.d (.agg [.v (.int .i64 a),.v (.int .i64 b)]),.d (.agg [.v (.int .i64 c),.v (.int .i64 d)])]=>some ⟨⟨a,b⟩,⟨c,d⟩⟩
 |_=>none
def xR2(g:Bnd):List AVal:=[.d (eRt g.lo),.d (eRt g.hi)]
theorem hR2(xs:List AVal)(a:Bnd)(h:dR2 xs=some a):xs=xR2 a:=by
 unfold dR2 at h;split at h<;>cases h;rfl
def orS(s t:Sym.Spec):Sym.Spec:=λxs H r=>match s xs H r with
 |some x=>some x
 |none=>t xs H r
theorem CDH{g:FuncId}{s t:Sym.Spec}(h1:AH ZP g s)(h2:AH ZP g t):AH ZP g (orS s t):=λxs H r x hx hp=>by
 unfold orS at hx
 split at hx
 ·rename_i y hy;cases hx;exact h1 xs H r _ hy hp
 ·exact h2 xs H r x hx hp
theorem mulb{a b A B:Int}(h1:0<=a)(h2:a<=A)(h3:0<=b)(h4:b<=B):0<=a*b/\a*b<=A*B:=
 ⟨Int.mul_nonneg h1 h3,Int.mul_le_mul h2 h4 h3 (by omega)⟩
theorem DDW{a b A B:Int}(h1:-A<=a)(h2:a<=A)(h3:-B<=b)(h4:b<=B):-(A*B)<=a*b/\a*b<=A*B:=by
 have hA:0<=A:=by omega
 have hB:0<=B:=by omega
 rcases Int.le_total 0 a with ha | ha<;>rcases Int.le_total 0 b with hb | hb
 ·have:=mulb ha h2 hb h4
  have:0<=A*B:=Int.mul_nonneg hA hB
  omega
 ·have:=mulb ha h2 (show 0 <= -b by omega) (show -b<=B by omega)
  rw[Int.mul_neg] at this
  have:0<=A*B:=Int.mul_nonneg hA hB
  omega
 ·have:=mulb (show 0 <= -a by omega) (show -a<=A by omega) hb h4
  rw[Int.neg_mul] at this
  have:0<=A*B:=Int.mul_nonneg hA hB
  omega
 ·have:=mulb (show 0 <= -a by omega) (show -a<=A by omega) (show 0 <= -b by omega) (show -b<=B by omega)
  rw[Int.neg_mul_neg] at this
  have:0<=A*B:=Int.mul_nonneg hA hB
  omega
theorem CC:((∀{b:Bool} {p q:Prop},(bif b then p else q)=((b=true->p)/\(b=false->q)))/\(∀(p:Prop),(p/\p)=p)/\(∀(p:Prop),(True/\p)=p)/\(∀(p:Prop),(p/\True)=p)/\(∀(p:Prop),(True->p)=p)/\(∀{p:Prop} [inst:Decidable p],(decide p=true)=p)/\(∀{p:Prop} {x:Decidable p},decide p=false↔¬p))/\(∀(n:Nat),(n:Int).toNat=n)/\(∀(s:Span),VB (EQ s)=s)/\(∀(n:Int),DG (CF n)=n)/\(∀(g:Gau),dGau (eGau g)=g)/\(∀(g:Pt),dPt (ePt g)=g)/\(∀(g:Ln),dLn (eLn g)=g)/\(∀(g:Rt),dRt (eRt g)=g)/\(∀(n:Nat),0+n=n)/\(∀(a:Int),0-a=-a)/\(∀{x y:Nat},x.le y=(x<=y))/\(∀(n:Nat),n.succ=n+1)/\(∀{n m:Nat},n+1<=m↔n<m)/\(∀(b:Bool),((!b)=true)=(b=false))/\(∀(b:Bool),((!b)=false)=(b=true))/\(∀{α:Type} (n:Nat) (f:Nat->α),(HQ n f).length=n)/\(∀(a b:Int),VB (.agg [CF a,CF b])=⟨a,b⟩)/\(∀{α:Type} [Inhabited α] (l:List α),(HQ l.length λi=>gD l i)=l):=⟨⟨BIH,and_self,true_and,and_true,true_implies,decide_eq_true_eq,decide_eq_false_iff_not⟩,Int.toNat_natCast,dSpan_eSpan,dInt_eInt,CWA,DDH,DDT,DAV,Nat.zero_add,Int.zero_sub,Nat.le_eq,Nat.succ_eq_add_one,Nat.add_one_le_iff,Bool.not_eq_true',Bool.not_eq_false',rng_length,ASH,GC⟩
end Go.Bal
namespace Go.Bal.DL
open Go.Sym Go
theorem g1(s:Gau):dGau (eGau s)=s:=rfl
theorem g2(s:Pt):dPt (ePt s)=s:=rfl
theorem g3(s:Ln):dLn (eLn s)=s:=rfl
theorem g4(s:Rt):dRt (eRt s)=s:=rfl
theorem h1(a b c:Int):dGau (.agg [CF a,CF b,CF c])=Gau.mk a b c:=rfl
theorem h2(a b:Int):dPt (.agg [CF a,CF b])=Pt.mk a b:=rfl
theorem h3(a b c d:Int):dLn (.agg [CF a,CF b,CF c,CF d])=Ln.mk a b c d:=rfl
theorem h4(a b:Int):dRt (.agg [CF a,CF b])=Rt.mk a b:=rfl
theorem k1(s:Gau):Gau.mk s.st s.lo s.hi=s:=rfl
theorem k2(s:Pt):Pt.mk s.st s.fl=s:=rfl
theorem k3(s:Ln):Ln.mk s.a0 s.a1 s.b0 s.b1=s:=rfl
theorem k4(s:Rt):Rt.mk s.n s.d=s:=rfl
end Go.Bal.DL
namespace Go.Bal
open Go Go.Sym Go.Proofs
def wr(n:Int):Int:=IntKind.i64.wrap n
def NJ(a b c:Int):Bool:=decide (b<=a)&&decide (a<=c)
def riG(g:Gau):Bool:=NJ g.st 0 2000&&NJ g.lo 0 g.hi&&NJ g.hi 0 200000
def riP(p:Pt):Bool:=NJ p.st 0 2000&&NJ p.fl 0 200000
def mD(x:Ln):Bool:=riP ⟨x.a0,x.a1⟩&&riP ⟨x.b0,x.b1⟩&&decide (x.a0<x.b0)&&decide (x.a1<=x.b1)
def V_in(x:I3):Prop:=AS ZP (ann 15 []) Tryz.f39 (AG Tryz.f39) (xI3 x) (AC []) (.bool (NJ x.a x.b x.c)) [] [] []
abbrev lY:=I3.a
attribute [go_sem] lY
theorem DAA(x:I3):(V_in x)=(SQ (NJ (lY x) (I3.b x) (I3.c x)) (hd6 (lY x) (I3.b x)) (hd7 (lY x) (I3.c x))):=by kernel_rfl
def My:=pD dI3 λx=>.bool (NJ x.a x.b x.c)
theorem ALI:AH ZP 39 My:=NH xI3 hI3 λx _=>TF (A:=ann 15 []) (ren:=[]) (fz:=[]) Tryz.func39 (by kernel_rfl) AD (by
 show V_in x;rw[DAA]<;> dsimp only[go_sem];unfold NJ;by_cases h:x.b<=x.a<;>simp[h])
def CRG(g:Gau):Prop:=AS ZP (ann 21 [(39,My)]) Tryz.f52 (AG Tryz.f52) (xG1 g) (AC []) (.bool (riG g)) [] [] []
abbrev Ac:=Gau.st
abbrev Xc:=Gau.lo
abbrev YF:=Gau.hi
abbrev JR a b:=NJ a 0 b
attribute [go_sem] Ac Xc YF JR
theorem CVI(g:Gau):(CRG g)=(SQ (riG g) (IC (JR (Ac g) 2000) (JR (Xc g) (YF g))) (JR (YF g) 200000)):=by kernel_rfl
def CSB:=pD dG1 λg=>.bool (riG g)
theorem CVL:AH ZP 52 CSB:=NH xG1 hG1 λg _=>TF (A:=ann 21 [(39,My)]) (ren:=[]) (fz:=[]) Tryz.func52 (by kernel_rfl) (AA ALI AD) (by
 show CRG g;rw[CVI]<;> dsimp only[go_sem];unfold riG;cases NJ g.st 0 2000<;>cases NJ g.lo 0 g.hi<;>simp)
def CTH(g:Pt):Prop:=AS ZP (ann 11 [(39,My)]) Tryz.f89 (AG Tryz.f89) (xP1 g) (AC []) (.bool (riP g)) [] [] []
abbrev vU:=Pt.st
abbrev N5:=Pt.fl
attribute [go_sem] vU N5
theorem CXZ(g:Pt):(CTH g)=(SQ (riP g) (JR (vU g) 2000) (JR (N5 g) 200000)):=by kernel_rfl
def CDQ:=pD dP1 λg=>.bool (riP g)
theorem CXB:AH ZP 89 CDQ:=NH xP1 hP1 λg _=>TF (A:=ann 11 [(39,My)]) (ren:=[]) (fz:=[]) Tryz.func89 (by kernel_rfl) (AA ALI AD) (by
 show CTH g;rw[CXZ]<;> dsimp only[go_sem];unfold riP;cases NJ g.st 0 2000<;>simp)
def CTP(g:Ln):Prop:=AS ZP (ann 29 [(89,CDQ)]) Tryz.f55 (AG Tryz.f55) (xL1 g) (AC []) (.bool (mD g)) [] [] []
abbrev FJ:=Ln.a0
abbrev FH:=Ln.a1
abbrev FP:=Ln.b0
abbrev EV:=Ln.b1
attribute [go_sem] FJ FH FP EV
theorem CVP(g:Ln):(CTP g)=(SQ (mD g) (IC (IC (riP (Pt.mk (FJ g) (FH g))) (riP (Pt.mk (FP g) (EV g)))) (cT (FJ g) (FP g))) (hd7 (FH g) (EV g))):=by kernel_rfl
def BVC:=pD dL1 λg=>.bool (mD g)
theorem APA:AH ZP 55 BVC:=NH xL1 hL1 λg _=>TF (A:=ann 29 [(89,CDQ)]) (ren:=[]) (fz:=[]) Tryz.func55 (by kernel_rfl) (AA CXB AD) (by
 show CTP g;rw[CVP]<;> dsimp only[go_sem];unfold mD;cases riP ⟨g.a0,g.a1⟩<;>cases riP ⟨g.b0,g.b1⟩<;>by_cases h:g.a0<g.b0<;>simp[h])
def CAR(x:Int):Prop:=AS ZP (ann 6 []) Tryz.f120 (AG Tryz.f120) (xI1 x) (AC []) (.bool false) [] [] []
theorem CMO(x:Int):(CAR x)=(Sr P8 (vA x x)):=by kernel_rfl
def Z5:=pD dI1 λ_=>.bool false
theorem BTI:AH ZP 120 Z5:=NH xI1 hI1 λg _=>TF (A:=ann 6 []) (ren:=[]) (fz:=[]) Tryz.func120 (by kernel_rfl) AD (by
 show CAR g;rw[CMO]<;> dsimp only[go_sem];simp)
def CGZ(x:Int):Prop:=AS ZP (ann 6 []) Tryz.f91 (AG Tryz.f91) (xI1 x) (AC []) (.bool false) [] [] []
theorem CLD(x:Int):(CGZ x)=(Sr P8 (vA x x)):=by kernel_rfl
theorem CQK:AH ZP 91 Z5:=NH xI1 hI1 λg _=>TF (A:=ann 6 []) (ren:=[]) (fz:=[]) Tryz.func91 (by kernel_rfl) AD (by
 show CGZ g;rw[CLD]<;> dsimp only[go_sem];simp)
def BRN(x:I2):Prop:=AS ZP (ann 17 [(120,Z5)]) Tryz.f90 (AG Tryz.f90) (xI2 x) (AC []) (.bool (decide (x.a<x.b))) [] [] []
abbrev Ab:=I2.a
abbrev Kx:=I2.b
abbrev AUS a b:=hd5 a b a
attribute [go_sem] Ab Kx AUS
theorem CJW(x:I2):(BRN x)=(Sr (cT (Ab x) (Kx x)) (Hc (AUS P8 (not P8)) (cT (Ab x) (Kx x)))):=by kernel_rfl
def BWA:=pD dI2 λx=>.bool (decide (x.a<x.b))
theorem BYX:AH ZP 90 BWA:=NH xI2 hI2 λg _=>TF (A:=ann 17 [(120,Z5)]) (ren:=[]) (fz:=[]) Tryz.func90 (by kernel_rfl) (AA BTI AD) (by
 show BRN g;rw[CJW]<;> dsimp only[go_sem];try simp)
def cR(a b:Int):Int:=bif decide (a<b) then -1 else bif decide (a>b) then 1 else 0
def CGD(x:I2):Prop:=AS ZP (ann 20 [(120,Z5)]) Tryz.f136 (AG Tryz.f136) (xI2 x) (AC []) (.int (cR x.a x.b)) [] [] []
theorem COO(x:I2):(CGD x)=(YL (cT (Ab x) (Kx x)) (AN (cR (Ab x) (Kx x)) (-1)) (YL (hd94 (Ab x) (Kx x)) (AN (cR (Ab x) (Kx x)) 1) (BZ (cR (Ab x) (Kx x))))):=by kernel_rfl
def BPI:=pD dI2 λx=>.int (cR x.a x.b)
theorem CNH:AH ZP 136 BPI:=NH xI2 hI2 λg _=>TF (A:=ann 20 [(120,Z5)]) (ren:=[]) (fz:=[]) Tryz.func136 (by kernel_rfl) (AA BTI AD) (by
 show CGD g;rw[COO]<;> dsimp only[go_sem];unfold cR;by_cases h:g.a<g.b<;>by_cases h2:g.b<g.a<;>simp[h,h2])
structure IL where
 a:Int
 l:List Int
def grM(x:IL):Int:=x.l.foldl EU x.a
structure NI where
 k:Nat
 m:Int
 deriving Inhabited
def C_gr:Ctr:={ α:=IL,xs:=λx=>[.int x.a,.d (BM x.l)],L:=λ_=>[],val:=λx=>.int (grM x),keep:=λ_=>[],pre:=λx=>[decide (x.l.length<4611686018427387904)=true] }
def d_gr:List AVal->Heap->Option (IL×List (Nat×Nat)×List Nat)
 |[.d a,y],H=>match S6 y H with
  |some (l,f)=>some (⟨DG a,l⟩,[],f)
  |none=>none
 |_,_=>none
def A_gr(x:IL):Ann:={ ann 18 [] with loops:=λid=>if id=2 then some [{ α:=NI,dflt:=default,T:=λs=>⟨[(0,.int s.m),(7,.d (BM x.l)),(8,.int x.l.length),(9,.int s.k)],[]⟩,inv:=λs=>s.k<=x.l.length/\s.m=(x.l.take s.k).foldl EU x.a,meas:=λs=>x.l.length-s.k }] else none }
def V_gr(x:IL):Prop:=AS ZP (A_gr x) Tryz.f121 (AG Tryz.f121) (C_gr.xs x) (AC []) (C_gr.val x) [] [] []
abbrev BEZ:=@Exists NI
abbrev dN:=NI.m
abbrev Xn:=IL.l
abbrev UO:=NI.k
abbrev BUV:=@List.foldl Int Int
abbrev BER:=@List.take Int
abbrev CAV:=λ(f:NI->Prop)=>∀(x:NI),f x
abbrev Yh a b c d e:=CB a (MO b) (IU c) (gX d) e
attribute [go_sem] BEZ dN Xn UO BUV BER CAV Yh
theorem CYR(x:IL):(V_gr x)=(And (BEZ (λi=>DK (Yh (AN (dN i) (IL.a x)) (Xn x) (Xn x) (Xn x) (BC (UO i))) (UO i) (BQ (Xn x)) (AN (dN i) (BUV hd50 (IL.a x) (BER (UO i) (Xn x)))))) (CAV (λi=>Ck (VU (UO i) (BQ (Xn x)) (AN (dN i) (BUV hd50 (IL.a x) (BER (UO i) (Xn x))))) (UO i) (LW (Xn x)) (MZ (UO i) (Xn x)) (BEZ (λj=>IK (Yh (AN (dN j) (hd50 (dN i) (ID (Xn x) (UO i)))) (Xn x) (Xn x) (Xn x) (AR (UO j) (UO i))) (UO j) (BQ (Xn x)) (AN (dN j) (BUV hd50 (IL.a x) (BER (UO j) (Xn x)))) (UO i))) (AN (grM x) (dN i))))):=by kernel_rfl
theorem YG{α:Type}[Inhabited α]{l:List α}{k:Nat}(h:k<l.length):l.take (k+1)=l.take k ++ [gD l k]:=by
 rw[List.take_add_one,List.getElem?_eq_getElem h];simp[gD,List.getD_eq_getElem?_getD,h]
theorem p_gr(x:IL)(h:x.l.length<4611686018427387904):V_gr x:=by
 rw[CYR]<;> dsimp only[go_sem];try simp only[CC,CU]
 refine⟨⟨⟨0,x.a⟩,⟨rfl,rfl⟩,Nat.zero_le _,rfl⟩,λs hs=>⟨λhlt=>⟨by omega,⟨s.k+1,EU s.m (gD x.l s.k)⟩,⟨rfl,(BJ (by omega)).symm⟩,⟨⟨by show s.k+1<=_;omega,?_⟩,?_⟩⟩,λhge=>?_⟩⟩
 ·show EU s.m (gD x.l s.k)=_
  rw[YG (by omega),List.foldl_append,hs.2];rfl
 ·show x.l.length-(s.k+1)<_;omega
 ·rw[hs.2];unfold grM;rw[List.take_of_length_le (by omega)]
theorem DDO:AH ZP 121 (C_gr.spec d_gr):=MK C_gr A_gr [] [] Tryz.func121 (λ_=>by kernel_rfl) (λ_=>AD) (λx h=>p_gr x (of_decide_eq_true h)) (λ_=>OA rfl rfl) _
def jO(n d:Int):Rt:=⟨n.tdiv (Nat.gcd n.natAbs d.natAbs:Nat),d.tdiv (Nat.gcd n.natAbs d.natAbs:Nat)⟩
structure NN where
 a:Nat
 b:Nat
 deriving Inhabited
def BTW(x:I2):Ann:={ ann 26 [(121,C_gr.spec d_gr)] with loops:=λid=>if id=2 then some [{ α:=NN,dflt:=default,T:=λs=>⟨[(0,.int x.a),(1,.int x.b),(4,.bptr 201 0),(5,.int s.a),(6,.int s.b)],[(201,.live (.box [.int 0,.int 0]))]⟩,inv:=λs=>Nat.gcd s.a s.b=Nat.gcd x.a.natAbs x.b.natAbs/\s.a<=2305843009213693952/\s.b<=2305843009213693952,meas:=λs=>s.b,first:=[(201,1000)] }] else none }
def BSB(x:I2):Prop:=AS ZP (BTW x) Tryz.f92 (AG Tryz.f92) (xI2 x) (AC []) (.d (eRt (jO x.a x.b))) [] [] []
abbrev dX:=NN.a
abbrev Zu:=NN.b
abbrev ASU:=Nat.gcd
abbrev ANV:=Int.natAbs
abbrev RH:=Rt.n
abbrev VG:=Rt.d
abbrev VL a b c d:=AYF a b b c d
abbrev qJ a:=Sc a 1
attribute [go_sem] dX Zu ASU ANV RH VG VL qJ
theorem CCX(x:I2):(BSB x)=(AQ (CB (AI (Ab x)) (qJ (wH 1 (λi=>CW 0 (Ab x)))) B6 (AE (λi=>VL i (wH 1 (λj=>CW 0 (Ab x))) i (CW 0 (Ab x)))) CY) ((@Exists NN) (λi=>AO (And (AI (Ab x)) (S5 (AI (Kx x)) (TO (dX i) (grM (IL.mk (Ab x) (wH 1 (λj=>CW 0 (Ab x)))))) (TO (Zu i) (Kx x)) AU)) (BB (ASU (dX i) (Zu i)) (ASU (ANV (Ab x)) (ANV (Kx x)))) (DC (dX i) 2305843009213693952) (DC (Zu i) 2305843009213693952))) ((λ(f:NN->Prop)=>∀(x:NN),f x) (λi=>Km (DK (BB (ASU (dX i) (Zu i)) (ASU (ANV (Ab x)) (ANV (Kx x)))) (dX i) 2305843009213693952 (DC (Zu i) 2305843009213693952)) (UH (AZ (Zu i))) (Za (BC (Zu i))) ((@Exists NN) (λj=>NT (And (AI (Ab x)) (S5 (AI (Kx x)) (AT (dX j) (Zu i)) (TO (Zu j) (wG (AZ (dX i)) (AZ (Zu i)))) AU)) (DK (BB (ASU (dX j) (Zu j)) (ASU (ANV (Ab x)) (ANV (Kx x)))) (dX j) 2305843009213693952 (DC (Zu j) 2305843009213693952)) (Zu j) (Zu i))) (Qu (And (Ha (AZ (dX i))) (Za (BC (dX i)))) (RH (jO (Ab x) (Kx x))) (TP (Ab x) (AZ (dX i))) (VG (jO (Ab x) (Kx x))) (TP (Kx x) (AZ (dX i))))))):=by kernel_rfl
def BDB:=pD dI2 (λx=>.d (eRt (jO x.a x.b))) (λx=>[0<x.b/\x.b<=2305843009213693952 /\ -2305843009213693952<=x.a/\x.a<=2305843009213693952])
theorem CPP{n:Int}(h1:-2305843009213693952<=n)(h2:n<=2305843009213693952):grM ⟨n,HQ 1 λ_=>IntKind.i64.wrap (-n)⟩=n.natAbs:=by
 rw[ER (by omega) (by omega)]
 show EU n (-n)=_
 unfold EU;split<;>omega
theorem BZL:AH ZP 92 BDB:=NH xI2 hI2 λx h=>TF (A:=BTW x) (ren:=[]) (fz:=[]) Tryz.func92 (by kernel_rfl) (AA DDO AD) (by
 show BSB x;rw[CCX]<;> dsimp only[go_sem];try simp only[CC,CU]
 obtain⟨h1,h2,h3,h4⟩:0<x.b/\x.b<=2305843009213693952 /\ -2305843009213693952<=x.a/\x.a<=2305843009213693952:=h
 refine⟨⟨by omega,λj hj=>CS _ _ _ hj⟩,⟨⟨x.a.natAbs,x.b.natAbs⟩,⟨(CPP h3 h4).symm,by show (x.b.natAbs:Int)=_;omega⟩,rfl,by show x.a.natAbs<=_;omega,by show x.b.natAbs<=_;omega⟩,λs hs=>⟨λhb=>?_,λhb=>?_⟩⟩
 ·have hb:s.b≠0:=by simpa using hb
  refine⟨by omega,⟨s.b,s.a % s.b⟩,⟨rfl,?_⟩,⟨?_,hs.2.2,?_⟩,Nat.mod_lt _ (by omega)⟩
  ·exact (Int.ofNat_tmod s.a s.b)
  ·show Nat.gcd s.b (s.a % s.b)=_
   rw[<-hs.1,Nat.gcd_comm s.b,<-Nat.gcd_rec,Nat.gcd_comm]
  ·exact Nat.le_trans (Nat.le_of_lt (Nat.mod_lt _ (by omega))) hs.2.2
 ·have hb:s.b=0:=by simpa using hb
  have hg:s.a=Nat.gcd x.a.natAbs x.b.natAbs:=by rw[<-hs.1,hb,Nat.gcd_zero_right]
  have hp:0<Nat.gcd x.a.natAbs x.b.natAbs:=Nat.gcd_pos_of_pos_right _ (by omega)
  have ha:∀z:Int,(z.tdiv (s.a:Int)).natAbs<=z.natAbs:=λz=>by rw[Int.natAbs_tdiv];exact Nat.div_le_self _ _
  have e1:=ha x.a
  have e2:=ha x.b
  refine⟨by omega,?_,?_⟩
  ·rw[ER (by omega) (by omega)];unfold jO;rw[<-hg]
  ·rw[ER (by omega) (by omega)];unfold jO;rw[<-hg])
theorem BKM{n d:Int}(h:0<d):0<(jO n d).d/\(jO n d).d<=d:=by
 have hd:((Nat.gcd n.natAbs d.natAbs:Nat):Int)∣d:=Int.ofNat_dvd_left.2 (Nat.gcd_dvd_right _ _)
 have hp:0<Nat.gcd n.natAbs d.natAbs:=Nat.gcd_pos_of_pos_right _ (by omega)
 obtain⟨c,hc⟩:=hd
 have hc0:0<c:=by
  rcases Int.lt_or_le 0 c with h1 | h1
  ·exact h1
  ·have:=Int.mul_nonneg (show 0<=((Nat.gcd n.natAbs d.natAbs:Nat):Int) by omega) (show 0 <= -c by omega)
   rw[Int.mul_neg,<-hc] at this;omega
 have e:(jO n d).d=c:=by
  show d.tdiv _=c
  generalize Nat.gcd n.natAbs d.natAbs=q at *
  rw[hc,Int.mul_tdiv_cancel_left _ (by omega)]
 rw[e]
 refine⟨hc0,?_⟩
 have:=Int.mul_le_mul_of_nonneg_right (show (1:Int)<=((Nat.gcd n.natAbs d.natAbs:Nat):Int) by omega) (show 0<=c by omega)
 rw[<-hc] at this;omega
theorem ATH{n d:Int}(h:0<d):(jO n d).n*d=n*(jO n d).d:=by
 have hd:((Nat.gcd n.natAbs d.natAbs:Nat):Int)∣d:=Int.ofNat_dvd_left.2 (Nat.gcd_dvd_right _ _)
 have hn:((Nat.gcd n.natAbs d.natAbs:Nat):Int)∣n:=Int.ofNat_dvd_left.2 (Nat.gcd_dvd_left _ _)
 have hp:0<Nat.gcd n.natAbs d.natAbs:=Nat.gcd_pos_of_pos_right _ (by omega)
 show n.tdiv _*d=n*d.tdiv _
 generalize Nat.gcd n.natAbs d.natAbs=q at *
 obtain⟨c,rfl⟩:=hd
 obtain⟨e,rfl⟩:=hn
 rw[Int.mul_tdiv_cancel_left _ (by omega),Int.mul_tdiv_cancel_left _ (by omega)]
 rw[Int.mul_comm (q:Int) e,Int.mul_assoc]
def AWW(x:Bnd):Prop:=AS ZP (ann 16 [(136,BPI)]) Tryz.f106 (AG Tryz.f106) (xR2 x) (AC []) (.int (cR (wr (x.lo.n*x.hi.d)) (wr (x.hi.n*x.lo.d)))) [] [] []
abbrev WX a:=VG (Bnd.lo a)
abbrev Kl a:=RH (Bnd.hi a)
abbrev XF a:=VG (Bnd.hi a)
abbrev Cd a:=RH (Bnd.lo a)
attribute [go_sem] WX Kl XF Cd
theorem BKT(x:Bnd):(AWW x)=(AN (cR (wr (vI (Cd x) (XF x))) (wr (vI (Kl x) (WX x)))) (cR (UC (Cd x) (XF x)) (UC (Kl x) (WX x)))):=by kernel_rfl
def AWF:=pD dR2 λx=>.int (cR (wr (x.lo.n*x.hi.d)) (wr (x.hi.n*x.lo.d)))
theorem APL:AH ZP 106 AWF:=NH xR2 hR2 λg _=>TF (A:=ann 16 [(136,BPI)]) (ren:=[]) (fz:=[]) Tryz.func106 (by kernel_rfl) (AA CNH AD) (by
 show AWW g;rw[BKT]<;> dsimp only[go_sem];try rfl)
def hasM(x:Ln)(s:Int):Rt:=jO (x.a1*(x.b0-x.a0)+(x.b1-x.a1)*(s-x.a0)) (x.b0-x.a0)
def MM(x:Ln):Prop:=0<=x.a0/\x.a0<x.b0/\x.b0<=2000/\0<=x.a1/\x.a1<=x.b1/\x.b1<=200000
def CUB(a:LnI):Prop:=AS ZP (ann 34 [(92,BDB)]) Tryz.f57 (AG Tryz.f57) (xLI a) (AC []) (.d (eRt (hasM a.x a.s))) [] [] []
abbrev Jm:=LnI.x
abbrev Nw:=LnI.s
abbrev O7:=hasM
abbrev BAT a:=FJ (Jm a)
abbrev AKI a b:=CW a (BAT b)
abbrev BAN a:=FP (Jm a)
abbrev tK a b:=AKI (BAN a) b
abbrev Pu a b c d:=BEJ (UC a b) (CW c a) d
abbrev Z4 a:=FH (Jm a)
attribute [go_sem] Jm Nw O7 BAT AKI BAN tK Pu Z4
theorem CUZ(a:LnI):(CUB a)=(Qu (AO (ZK 0 (tK a a)) (KM (tK a a) 2305843009213693952) (KM (-2305843009213693952) (Pu (Z4 a) (tK a a) (EV (Jm a)) (AKI (Nw a) a))) (KM (Pu (Z4 a) (tK a a) (EV (Jm a)) (AKI (Nw a) a)) 2305843009213693952)) (RH (O7 (Jm a) (Nw a))) (RH (jO (Pu (Z4 a) (tK a a) (EV (Jm a)) (AKI (Nw a) a)) (tK a a))) (VG (O7 (Jm a) (Nw a))) (VG (jO (Pu (Z4 a) (tK a a) (EV (Jm a)) (AKI (Nw a) a)) (tK a a)))):=by kernel_rfl
def BHO:=pD dLI (λa=>.d (eRt (hasM a.x a.s))) (λa=>[MM a.x,0<=a.s/\a.s<=2000])
theorem CLS{x:Ln}{t:Int}(h:MM x)(h2:0<=t/\t<=2000):(0<=x.a1*(x.b0-x.a0)/\x.a1*(x.b0-x.a0)<=400000000) /\ -400000000<=(x.b1-x.a1)*(t-x.a0)/\(x.b1-x.a1)*(t-x.a0)<=400000000:=by
 obtain⟨h3,h4,h5,h6,h7,h8⟩:=h
 exact⟨mulb (A:=200000) (B:=2000) (by omega) (by omega) (by omega) (by omega),DDW (A:=200000) (B:=2000) (by omega) (by omega) (by omega) (by omega)⟩
theorem CDO:AH ZP 57 BHO:=NH xLI hLI λa h=>TF (A:=ann 34 [(92,BDB)]) (ren:=[]) (fz:=[]) Tryz.func57 (by kernel_rfl) (AA BZL AD) (by
 show CUB a;rw[CUZ]<;> dsimp only[go_sem];try simp only[CC,CU]
 have hb:=CLS h.1 h.2
 obtain⟨⟨h3,h4,h5,h6,h7,h8⟩,h9,h10⟩:=h
 rw[ER (n:=a.x.b0-a.x.a0) (by omega) (by omega),ER (n:=a.x.b1-a.x.a1) (by omega) (by omega),ER (n:=a.s-a.x.a0) (by omega) (by omega),ER (n:=a.x.a1*(a.x.b0-a.x.a0)) (by omega) (by omega),ER (n:=(a.x.b1-a.x.a1)*(a.s-a.x.a0)) (by omega) (by omega),ER (n:=a.x.a1*(a.x.b0-a.x.a0)+(a.x.b1-a.x.a1)*(a.s-a.x.a0)) (by omega) (by omega)]
 exact⟨⟨by omega,by omega,by omega,by omega⟩,rfl,rfl⟩)
theorem BLC{x:Ln}{t:Int}(h:MM x):0<(hasM x t).d/\(hasM x t).d<=2000:=by
 have:=BKM (n:=x.a1*(x.b0-x.a0)+(x.b1-x.a1)*(t-x.a0)) (d:=x.b0-x.a0) (by have:=h.2.1;omega)
 refine⟨this.1,?_⟩
 have h1:=h.1
 have h3:=h.2.2.1
 have:=this.2
 show (jO _ _).d<=_
 omega
def APW(r:Rt):Rt:=if r.n<0 then⟨0,1⟩ else if 200000*r.d<r.n then⟨200000,1⟩ else r
def AVJ(r:Rt):Prop:=AS ZP (ann 17 []) Tryz.f186 (AG Tryz.f186) (xR1 r) (AC []) (.d (eRt (APW r))) [] [] []
abbrev AFD:=APW
abbrev G9 a:=cT a 0
attribute [go_sem] AFD G9
theorem BJO(r:Rt):(AVJ r)=(FW (G9 (RH r)) (BZ (RH (AFD r))) (AN (VG (AFD r)) 1) (iM (hd94 (RH r) (UC 200000 (VG r))) (AN (RH (AFD r)) 200000) (AN (VG (AFD r)) 1) (AN (RH (AFD r)) (RH r)) (AN (VG (AFD r)) (VG r)))):=by kernel_rfl
def AIK:=pD dR1 (λr=>.d (eRt (APW r))) (λr=>[0<r.d/\r.d<=4000000])
theorem BKN:AH ZP 186 AIK:=NH xR1 hR1 λr h=>TF (A:=ann 17 []) (ren:=[]) (fz:=[]) Tryz.func186 (by kernel_rfl) AD (by
 show AVJ r;rw[BJO]<;> dsimp only[go_sem];try simp only[CC,CU]
 obtain⟨h1,h2⟩:0<r.d/\r.d<=4000000:=h
 rw[ER (by omega) (by omega)]
 unfold APW
 refine⟨λh3=>by simp[h3],λh3=>⟨λh4=>?_,λh4=>?_⟩⟩
 ·rw[if_neg h3,if_pos (by omega)];exact⟨rfl,rfl⟩
 ·rw[if_neg h3,if_neg (by omega)];exact⟨rfl,rfl⟩)
def JL(x:Ln)(s:Int):Rt:=APW (hasM x s)
def BSN(a:LnI):Prop:=AS ZP (ann 9 [(57,BHO),(186,AIK)]) Tryz.f185 (AG Tryz.f185) (xLI a) (AC []) (.d (eRt (JL a.x a.s))) [] [] []
abbrev AKT:=JL
abbrev SB a:=KM a 2000
abbrev aO a:=Uh a (SB a)
abbrev F0 a b c d e f:=CB a b c d (KM e f)
abbrev BLU a b c d:=F0 a (SB b) (IM c) (KM c d) d 200000
abbrev uO a b c d:=Uh a (BLU (ZK a b) b c d)
abbrev Yi a b c d:=uO a b c (EV d)
attribute [go_sem] AKT SB aO F0 BLU uO Yi
theorem CJO(a:LnI):(BSN a)=(Qu (AO (Yi (BAT a) (BAN a) (Z4 a) (Jm a)) (aO (Nw a)) (ZK 0 (VG (O7 (Jm a) (Nw a)))) (KM (VG (O7 (Jm a) (Nw a))) 4000000)) (RH (AKT (Jm a) (Nw a))) (RH (AFD (O7 (Jm a) (Nw a)))) (VG (AKT (Jm a) (Nw a))) (VG (AFD (O7 (Jm a) (Nw a))))):=by kernel_rfl
def AMU:=pD dLI (λa=>.d (eRt (JL a.x a.s))) (λa=>[MM a.x,0<=a.s/\a.s<=2000])
theorem BGA:AH ZP 185 AMU:=NH xLI hLI λa h=>TF (A:=ann 9 [(57,BHO),(186,AIK)]) (ren:=[]) (fz:=[]) Tryz.func185 (by kernel_rfl) (AA CDO (AA BKN AD)) (by
 show BSN a;rw[CJO]<;> dsimp only[go_sem];try simp only[CC,CU]
 have:=BLC (t:=a.s) h.1
 exact⟨⟨h.1,h.2,this.1,by omega⟩,rfl,rfl⟩)
def YE(p:Pt):Ln:=if p.st=2000 then⟨p.st-1,p.fl,p.st,p.fl⟩ else⟨p.st,p.fl,p.st+1,p.fl⟩
def BQQ(p:Pt):Prop:=AS ZP (ann 22 []) Tryz.f133 (AG Tryz.f133) (xP1 p) (AC []) (.d (eLn (YE p))) [] [] []
abbrev xR:=YE
abbrev nN a b:=AN (FJ a) b
attribute [go_sem] xR nN
theorem CIE(p:Pt):(BQQ p)=(iM (wP (vU p) 2000) (nN (xR p) (Mo (vU p))) (YX (FH (xR p)) (N5 p) (FP (xR p)) (vU p) (EV (xR p)) (N5 p)) (nN (xR p) (vU p)) (YX (FH (xR p)) (N5 p) (FP (xR p)) (JF (vU p)) (EV (xR p)) (N5 p))):=by kernel_rfl
def AYV:=pD dP1 (λp=>.d (eLn (YE p))) (λp=>[0<=p.st/\p.st<=2000])
theorem AFK:AH ZP 133 AYV:=NH xP1 hP1 λp h=>TF (A:=ann 22 []) (ren:=[]) (fz:=[]) Tryz.func133 (by kernel_rfl) AD (by
 show BQQ p;rw[CIE]<;> dsimp only[go_sem]
 obtain⟨h1,h2⟩:0<=p.st/\p.st<=2000:=h
 rw[ER (by omega) (by omega),ER (by omega) (by omega),BIH]
 unfold YE
 by_cases h:p.st=2000<;>simp[h])
def KU(x:Ln)(g:Gau):Bool:=decide (g.lo*(hasM x g.st).d<=(hasM x g.st).n)&&decide ((hasM x g.st).n<=g.hi*(hasM x g.st).d)
def Rz(g:Gau):Prop:=0<=g.st/\g.st<=2000/\0<=g.lo/\g.lo<=g.hi/\g.hi<=200000
def BHV(a:LnG):Prop:=AS ZP (ann 30 [(57,BHO)]) Tryz.f24 (AG Tryz.f24) (xLG a) (AC []) (.bool (KU a.x a.g)) [] [] []
abbrev T4:=LnG.x
abbrev T8:=LnG.g
attribute [go_sem] T4 T8
theorem BWN(a:LnG):(BHV a)=(And (AQ (Yi (FJ (T4 a)) (FP (T4 a)) (FH (T4 a)) (T4 a)) (IM (Ac (T8 a))) (SB (Ac (T8 a)))) (SQ (KU (T4 a) (T8 a)) (hd6 (RH (O7 (T4 a) (Ac (T8 a)))) (UC (Xc (T8 a)) (VG (O7 (T4 a) (Ac (T8 a)))))) (hd7 (RH (O7 (T4 a) (Ac (T8 a)))) (UC (YF (T8 a)) (VG (O7 (T4 a) (Ac (T8 a)))))))):=by kernel_rfl
def AQC:=pD dLG (λa=>.bool (KU a.x a.g)) (λa=>[MM a.x,Rz a.g])
theorem AVG:AH ZP 24 AQC:=NH xLG hLG λa h=>TF (A:=ann 30 [(57,BHO)]) (ren:=[]) (fz:=[]) Tryz.func24 (by kernel_rfl) (AA CDO AD) (by
 show BHV a;rw[BWN]<;> dsimp only[go_sem];try simp only[CC,CU]
 obtain⟨h1,h2,h3,h4,h5,h6⟩:MM a.x/\Rz a.g:=h
 have hd:=BLC (t:=a.g.st) h1
 have b1:=mulb (A:=200000) (B:=2000) h4 (by omega) (show 0<=(hasM a.x a.g.st).d by omega) hd.2
 have b2:=mulb (A:=200000) (B:=2000) (show 0<=a.g.hi by omega) (by omega) (show 0<=(hasM a.x a.g.st).d by omega) hd.2
 rw[ER (by omega) (by omega),ER (by omega) (by omega)]
 refine⟨⟨h1,h2,h3⟩,?_⟩
 unfold KU
 cases decide (a.g.lo*(hasM a.x a.g.st).d<=(hasM a.x a.g.st).n)<;>simp_all)
def allB(p:Nat->Bool):Nat->Bool
 |0=>true
 |n+1=>allB p n&&p n
theorem ATE{p:Nat->Bool}:∀{n:Nat},allB p n=true↔∀i,i<n->p i=true
 |0=>by simp[allB]
 |n+1=>by
  simp only[allB,Bool.and_eq_true,ATE (n:=n)]
  constructor
  ·intro h i hi
   by_cases he:i=n
   ·subst he;exact h.2
   ·exact h.1 i (by omega)
  ·exact λh=>⟨λi hi=>h i (by omega),h n (by omega)⟩
theorem BOT{p:Nat->Bool}:∀{n k:Nat},(0<=TE p n k)↔∃i,k<=i/\i<k+n/\p i=true
 |0,k=>by simp[TE];omega
 |n+1,k=>by
  simp only[TE]
  by_cases h:p k=true
  ·rw[if_pos h]
   constructor
   ·intro _;exact⟨k,Nat.le_refl _,by omega,h⟩
   ·intro _;omega
  ·rw[if_neg h,BOT (n:=n) (k:=k+1)]
   constructor
   ·rintro⟨i,h1,h2,h3⟩;exact⟨i,by omega,by omega,h3⟩
   ·rintro⟨i,h1,h2,h3⟩
    refine⟨i,?_,by omega,h3⟩
    by_cases he:i=k
    ·subst he;exact absurd h3 h
    ·omega
theorem CJT{p:Nat->Bool}{n:Nat}:(!decide (0<=TE (λi=>!p i) n 0))=allB p n:=by
 rw[Bool.eq_iff_iff,ATE]
 simp only[Bool.not_eq_true',decide_eq_false_iff_not,BOT,Nat.zero_le,Nat.zero_add,true_and]
 constructor
 ·intro h i hi
  cases hp:p i with
  |true=>rfl
  |false=>exact (h ⟨i,hi,by simp[hp]⟩).elim
 ·rintro h ⟨i,hi,hp⟩
  rw[h i hi] at hp;cases hp
theorem Qr{α:Type}[Inhabited α]{p:α->Bool}{l:List α}:(!decide (0<=TE (λi=>!p (gD l i)) l.length 0))=l.all p:=by
 rw[CJT,Bool.eq_iff_iff,ATE,List.all_eq_true]
 exact⟨λh x hx=>by obtain⟨i,hi,rfl⟩:=Hq hx;exact h i hi,λh i hi=>h _ (FD hi)⟩
def fvGr(q:One):AVal:=.fn (.func 52) [] []
def BGr(q:One):AObj:=.box [fvGr q]
structure EGr where
 q:One
 e:Gau
structure MGr where
 q:One
 l:List Gau
def C1Gr:Ctr:={ ro:=[100],α:=EGr,xs:=λa=>[.d (eGau a.e),.bptr 100 0],L:=λa=>(100,BGr a.q) :: [],val:=λa=>.bool (!riG a.e),keep:=λa=>(100,.live (BGr a.q)) :: [] }
def d1Gr:List AVal->Heap->Option (EGr×List (Nat×Nat)×List Nat)
 |[.d d,.bptr id _],H=>some (⟨default,dGau d⟩,[(100,id)],[])
 |_,_=>none
def A1Gr:Ann:={ ann 8 [(52,CSB)] with E:=[100] }
def V1Gr(a:EGr):Prop:=AS ZP A1Gr Tryz.f86 (AG Tryz.f86) (C1Gr.xs a) (AC (C1Gr.L a)) (C1Gr.val a) (C1Gr.keep a) [] []
theorem DBO(a:EGr):(V1Gr a)=(Qe (riG (EGr.e a))):=by kernel_rfl
theorem DBE:AH ZP 86 (C1Gr.spec d1Gr):=MK C1Gr (λ_=>A1Gr) [] [] Tryz.func86 (λ_=>by kernel_rfl) (λ_=>AA CVL AD) (λ(a:EGr) h=>by
 show V1Gr a;rw[DBO]<;> dsimp only[go_sem];try simp[wr,GC]) (λ_=>OA rfl rfl) _
def d2Gr:List AVal->Heap->Option (MGr×List (Nat×Nat)×List Nat)
 |[y,.fn _ _ [.bptr id _]],H=>match Ti y H with
  |some (n,g,f)=>some (⟨default,HQ n λi=>dGau (g i)⟩,[(100,id)],f)
  |none=>none
 |_,_=>none
def A2Gr(a:MGr):Ann:={ ann 19 [(86,C1Gr.spec d1Gr)] with E:=[100],loops:=λid=>if id=2 then some [{ α:=Nat,dflt:=0,T:=λk=>⟨[(0,.d (TB a.l)),(1,.fn (.func 86) [] [.bptr 100 0]),(7,.int a.l.length),(8,.int k)],(100,.live (BGr a.q)) :: []⟩,inv:=λk=>k<=a.l.length/\TE (λi=>!riG (gD a.l i)) a.l.length 0=TE (λi=>!riG (gD a.l i)) (a.l.length-k) k,meas:=λk=>a.l.length-k }] else none }
def PGr(a:MGr):List Prop:=[a.l.length<4611686018427387904/\True]
def C2Gr:Ctr:={ ro:=[100],α:=MGr,xs:=λa=>[.d (TB a.l),.fn (.func 86) [] [.bptr 100 0]],L:=λa=>(100,BGr a.q) :: [],val:=λa=>.int (TE (λi=>!riG (gD a.l i)) a.l.length 0),keep:=λa=>(100,.live (BGr a.q)) :: [],pre:=PGr }
def V2Gr(a:MGr):Prop:=AS ZP (A2Gr a) Tryz.f118 (AG Tryz.f118) (C2Gr.xs a) (AC (C2Gr.L a)) (C2Gr.val a) (C2Gr.keep a) [] []
abbrev DW:=@List.length Gau
abbrev bM:=MGr.l
abbrev U7:=@gD Gau instInhabitedGau
abbrev Ib a:=DW (bM a)
abbrev BOD a b:=riG (U7 a b)
abbrev Ys a b:=BOD (bM a) b
abbrev BDS a b c:=KD a b (AI c)
abbrev Hz a b c d e:=HB a b (BDS c d e)
abbrev BJS a b c d e:=Hz a b c (Xc d) e
abbrev JP a b:=YF (U7 a b)
abbrev IH a b:=Ac (U7 a b)
abbrev Yk a b c:=BJS a b (IH c a) (U7 c a) (JP c a)
abbrev IV a b:=Xc (U7 a b)
attribute [go_sem] DW bM U7 Ib BOD Ys BDS Hz BJS JP IH Yk IV
theorem DBH(a:MGr):(V2Gr a)=(LR (λi=>DK (Vn (Ib a) (λj=>Yk j (Ib a) (bM a)) (BC i)) i (Ib a) (JJ (λj=>Ys a j) (Ib a) (λj=>Ys a j) i)) (λi=>WR i (Ib a) (JJ (λj=>Ys a j) (Ib a) (λj=>Ys a j) i) (rD i (Ib a) (BDS (IH (bM a) i) (IV (bM a) i) (JP (bM a) i))) (Uj (Ys a i) (cO (λj=>Ys a j) (Ib a) i) (λj=>IK (Vn (Ib a) (λk=>Yk k (Ib a) (bM a)) (AR j i)) j (Ib a) (JJ (λk=>Ys a k) (Ib a) (λk=>Ys a k) j) i)) (Yt (λj=>Ys a j) (Ib a)))):=by kernel_rfl
theorem p2Gr(a:MGr)(h:BG (PGr a)):V2Gr a:=by
 obtain⟨h,hp⟩:a.l.length<4611686018427387904/\True:=h
 rw[DBH]<;> dsimp only[go_sem]
 simp only[CC,CU]
 refine⟨⟨0,rfl,Nat.zero_le _,rfl⟩,λk ⟨h1,h2⟩=>⟨λhlt=>?_,λhge=>?_⟩⟩
 ·have hlt:k<a.l.length:=by omega
  refine⟨⟨by omega,by omega⟩,λhp=>?_,λhp=>⟨k+1,(BJ (by omega)).symm,⟨by omega,?_⟩,by omega⟩⟩
  ·rw[h2];exact YB hlt (by simpa using hp)
  ·rw[h2];exact Wv hlt (by simpa using hp)
 ·rw[h2];exact Ge (by omega)
theorem DBX:AH ZP 118 (C2Gr.spec d2Gr):=MK C2Gr A2Gr [] [] Tryz.func118 (λ_=>by kernel_rfl) (λ_=>AA DBE AD) p2Gr (λ_=>OA rfl rfl) _
def C3Gr:Ctr:={ C2Gr with val:=λ(a:MGr)=>.bool (decide (TE (λi=>!riG (gD a.l i)) a.l.length 0>=0)) }
def d3Gr:List AVal->Heap->Option (C3Gr.α×List (Nat×Nat)×List Nat):=d2Gr
def A3Gr:Ann:={ ann 9 [(118,C2Gr.spec d2Gr)] with E:=[100] }
def V3Gr(a:MGr):Prop:=AS ZP A3Gr Tryz.f85 (AG Tryz.f85) (C3Gr.xs a) (AC (C3Gr.L a)) (C3Gr.val a) (C3Gr.keep a) [] []
abbrev BTR a(b:Nat->Gau):=(@HQ Gau) (DW a) b
abbrev NA a:=BTR a (λi=>U7 a i)
abbrev WL a:=JY (DW a)
abbrev EJ a b c d e f g h:=HB a b (YX c d e f g h)
abbrev BJR a b c d e f g h p:=EJ a b c d e f (JP g h) p
abbrev sE a b c d e:=BJR a (DW b) (IH b a) c (IV b a) d b a e
abbrev AIJ a b c d e f:=sE a b c d (JP e f)
abbrev ADN a b c:=AIJ a b (IH c a) (IV c a) c a
abbrev JC a b:=AE (λi=>ADN i a b)
abbrev TM a b:=BB (DW a) b
abbrev HT a b:=TM a (DW b)
attribute [go_sem] BTR NA WL EJ BJR sE AIJ ADN JC TM HT
theorem DCQ(a:MGr):(V3Gr a)=(X5 (HT (NA (bM a)) (bM a)) (JC (NA (bM a)) (bM a)) (WL (NA (bM a))) (Yu (λi=>Ys a i) (Ib a) (λi=>BOD (NA (bM a)) i) (DW (NA (bM a))))):=by kernel_rfl
theorem DAK:AH ZP 85 (C3Gr.spec d3Gr):=Ctr.spec_ok (C:=C3Gr) (λ(a:MGr) h=>TF (A:=A3Gr) (ren:=[]) (fz:=[]) Tryz.func85 (by kernel_rfl) (AA DBX AD) (by
 obtain⟨h,hp⟩:a.l.length<4611686018427387904/\True:=h
 show V3Gr a;rw[DCQ]<;> dsimp only[go_sem];simp[h,GC])) _
def d4Gr:List AVal->Heap->Option (MGr×List (Nat×Nat)×List Nat)
 |[y,.fn _ _ _],H=>match Ti y H with
  |some (n,g,f)=>some (⟨default,HQ n λi=>dGau (g i)⟩,[],f)
  |none=>none
 |_,_=>none
def A4Gr:Ann:={ ann 9 [(85,C3Gr.spec d3Gr)] with E:=[] }
def C4Gr:Ctr:={ ro:=[],α:=MGr,xs:=λa=>[.d (TB a.l),fvGr a.q],L:=λa=>[],val:=λa=>.bool (a.l.all λx=>riG x),keep:=λa=>[],pre:=PGr }
def V4Gr(a:MGr):Prop:=AS ZP A4Gr Tryz.f51 (AG Tryz.f51) (C4Gr.xs a) (AC (C4Gr.L a)) (C4Gr.val a) (C4Gr.keep a) [] []
theorem DBI(a:MGr):(V4Gr a)=(((HQ a.l.length λ(i:Nat)=>gD a.l i).length=a.l.length/\(∀(i:Nat),i<(HQ a.l.length λ(i:Nat)=>gD a.l i).length->(gD (HQ a.l.length λ(i:Nat)=>gD a.l i)
 i).st=(gD a.l i).st/\(gD (HQ a.l.length λ(i:Nat)=>gD a.l i) i).lo=(gD a.l i).lo/\(gD (HQ a.l.length λ(i:Nat)=>gD a.l i) i).hi=(gD a.l i).hi)/\(HQ a.l.length λ(i:Nat)=>gD a.l i).length <
 4611686018427387904/\True)/\(a.l.all λ(x:Gau)=>riG x)=!decide (TE (λ(i:Nat)=>!riG (gD (HQ a.l.length λ(i:Nat)=>gD a.l i) i)) (HQ a.l.length λ(i:Nat)=>gD a.l i).length 0>=0)):=by
 kernel_rfl
theorem DAG:AH ZP 51 (C4Gr.spec d4Gr):=Ctr.spec_ok (C:=C4Gr) (λ(a:MGr) h=>TF (A:=A4Gr) (ren:=[]) (fz:=[]) Tryz.func51 (by kernel_rfl) (AA DAK AD) (by
 have h':a.l.length<4611686018427387904/\True:=h
 show V4Gr a;rw[DBI];simp only[CC,CU,ge_iff_le]
 rw[<-Qr]
 exact⟨h'.1,rfl⟩)) _
def fvGp(q:Ln):AVal:=.fn (.func 24) [.d (eLn q)] []
def BGp(q:Ln):AObj:=.box [fvGp q]
structure EGp where
 q:Ln
 e:Gau
structure MGp where
 q:Ln
 l:List Gau
def C1Gp:Ctr:={ ro:=[100],α:=EGp,xs:=λa=>[.d (eGau a.e),.bptr 100 0],L:=λa=>(100,BGp a.q) :: [],val:=λa=>.bool (!KU a.q a.e),keep:=λa=>(100,.live (BGp a.q)) :: [],pre:=λa=>[(MM a.q/\Rz a.e)] }
def d1Gp:List AVal->Heap->Option (EGp×List (Nat×Nat)×List Nat)
 |[.d d,.bptr id _],H=>match H id with
  | .live (.box [.fn _ [.d x] _])=>some (⟨dLn x,dGau d⟩,[(100,id)],[])
  |_=>none
 |_,_=>none
def A1Gp:Ann:={ ann 8 [(24,AQC)] with E:=[100] }
def V1Gp(a:EGp):Prop:=AS ZP A1Gp Tryz.f86 (AG Tryz.f86) (C1Gp.xs a) (AC (C1Gp.L a)) (C1Gp.val a) (C1Gp.keep a) [] []
abbrev V5:=EGp.q
abbrev AZC a:=BLU (IM (Ac a)) (Ac a) (Xc a) (YF a)
attribute [go_sem] V5 AZC
theorem CZC(a:EGp):(V1Gp a)=(EM (Yi (FJ (V5 a)) (FP (V5 a)) (FH (V5 a)) (V5 a)) (AZC (EGp.e a)) (DO (Qe (KU (V5 a) (EGp.e a))) (FJ (V5 a)) (FH (V5 a)) (AI (FP (V5 a))) (AI (EV (V5 a))))):=by kernel_rfl
theorem CYU:AH ZP 86 (C1Gp.spec d1Gp):=MK C1Gp (λ_=>A1Gp) [] [] Tryz.func86 (λ_=>by kernel_rfl) (λ_=>AA AVG AD) (λ(a:EGp) h=>by
 show V1Gp a;rw[CZC]<;> dsimp only[go_sem];exact⟨h,by simp⟩) (λ_=>OA rfl rfl) _
def d2Gp:List AVal->Heap->Option (MGp×List (Nat×Nat)×List Nat)
 |[y,.fn _ _ [.bptr id _]],H=>match Ti y H with
  |some (n,g,f)=>match H id with
   | .live (.box [.fn _ [.d x] _])=>some (⟨dLn x,HQ n λi=>dGau (g i)⟩,[(100,id)],f)
   |_=>none
  |none=>none
 |_,_=>none
def A2Gp(a:MGp):Ann:={ ann 19 [(86,C1Gp.spec d1Gp)] with E:=[100],loops:=λid=>if id=2 then some [{ α:=Nat,dflt:=0,T:=λk=>⟨[(0,.d (TB a.l)),(1,.fn (.func 86) [] [.bptr 100 0]),(7,.int a.l.length),(8,.int k)],(100,.live (BGp a.q)) :: []⟩,inv:=λk=>k<=a.l.length/\TE (λi=>!KU a.q (gD a.l i)) a.l.length 0=TE (λi=>!KU a.q (gD a.l i)) (a.l.length-k) k,meas:=λk=>a.l.length-k }] else none }
def PGp(a:MGp):List Prop:=[a.l.length<4611686018427387904/\(∀x∈a.l,(MM a.q/\Rz x))]
def C2Gp:Ctr:={ ro:=[100],α:=MGp,xs:=λa=>[.d (TB a.l),.fn (.func 86) [] [.bptr 100 0]],L:=λa=>(100,BGp a.q) :: [],val:=λa=>.int (TE (λi=>!KU a.q (gD a.l i)) a.l.length 0),keep:=λa=>(100,.live (BGp a.q)) :: [],pre:=PGp }
def V2Gp(a:MGp):Prop:=AS ZP (A2Gp a) Tryz.f118 (AG Tryz.f118) (C2Gp.xs a) (AC (C2Gp.L a)) (C2Gp.val a) (C2Gp.keep a) [] []
abbrev Jg:=MGp.l
abbrev AOG:=MGp.q
abbrev ASD a:=EV (AOG a)
abbrev gT a:=AI (ASD a)
abbrev ASJ a:=FP (AOG a)
abbrev eY a:=AI (ASJ a)
abbrev gR a:=FH (AOG a)
abbrev Il a:=FJ (AOG a)
abbrev Gw a:=DW (Jg a)
abbrev BDI a b c:=KU a (U7 b c)
abbrev AXO a b c:=BDI (AOG a) b c
abbrev cA a b c:=AXO a (Jg b) c
abbrev Z7 a:=AI (gR a)
attribute [go_sem] Jg AOG ASD gT ASJ eY gR Il Gw BDI AXO cA Z7
theorem DDP(a:MGp):(V2Gp a)=(LR (λi=>DK (Vn (Gw a) (λj=>Yk j (Gw a) (Jg a)) (DO (BC i) (Il a) (gR a) (eY a) (gT a))) i (Gw a) (JJ (λj=>cA a a j) (Gw a) (λj=>cA a a j) i)) (λi=>WR i (Gw a) (JJ (λj=>cA a a j) (Gw a) (λj=>cA a a j) i) (rD i (Gw a) (AP (AI (IH (Jg a) i)) (AI (IV (Jg a) i)) (AI (JP (Jg a) i)) (AI (Il a)) (Z7 a) (eY a) (gT a) (AI (Il a)) (AP (Z7 a) (eY a) (gT a) (uO (Il a) (ASJ a) (gR a) (ASD a)) (IM (IH (Jg a) i)) (SB (IH (Jg a) i)) (IM (IV (Jg a) i)) (KM (IV (Jg a) i) (JP (Jg a) i)) (KM (JP (Jg a) i) 200000)))) (Uj (cA a a i) (DO (cO (λj=>cA a a j) (Gw a) i) (Il a) (gR a) (eY a) (gT a)) (λj=>IK (Vn (Gw a) (λk=>Yk k (Gw a) (Jg a)) (DO (AR j i) (Il a) (gR a) (eY a) (gT a))) j (Gw a) (JJ (λk=>cA a a k) (Gw a) (λk=>cA a a k) j) i)) (DO (Yt (λj=>cA a a j) (Gw a)) (Il a) (gR a) (eY a) (gT a)))):=by kernel_rfl
theorem p2Gp(a:MGp)(h:BG (PGp a)):V2Gp a:=by
 obtain⟨h,hp⟩:a.l.length<4611686018427387904/\(∀x∈a.l,(MM a.q/\Rz x)):=h
 rw[DDP]<;> dsimp only[go_sem]
 simp only[CC,CU]
 refine⟨⟨0,rfl,Nat.zero_le _,rfl⟩,λk ⟨h1,h2⟩=>⟨λhlt=>?_,λhge=>?_⟩⟩
 ·have hlt:k<a.l.length:=by omega
  refine⟨⟨⟨by omega,by omega⟩,hp _ (FD hlt)⟩,λhp=>?_,λhp=>⟨k+1,(BJ (by omega)).symm,⟨by omega,?_⟩,by omega⟩⟩
  ·rw[h2];exact YB hlt (by simpa using hp)
  ·rw[h2];exact Wv hlt (by simpa using hp)
 ·rw[h2];exact Ge (by omega)
theorem CZR:AH ZP 118 (C2Gp.spec d2Gp):=MK C2Gp A2Gp [] [] Tryz.func118 (λ_=>by kernel_rfl) (λ_=>AA CYU AD) p2Gp (λ_=>OA rfl rfl) _
def C3Gp:Ctr:={ C2Gp with val:=λ(a:MGp)=>.bool (decide (TE (λi=>!KU a.q (gD a.l i)) a.l.length 0>=0)) }
def d3Gp:List AVal->Heap->Option (C3Gp.α×List (Nat×Nat)×List Nat):=d2Gp
def A3Gp:Ann:={ ann 9 [(118,C2Gp.spec d2Gp)] with E:=[100] }
def V3Gp(a:MGp):Prop:=AS ZP A3Gp Tryz.f85 (AG Tryz.f85) (C3Gp.xs a) (AC (C3Gp.L a)) (C3Gp.val a) (C3Gp.keep a) [] []
abbrev C1:=λ(f:Gau->Prop)=>∀(x:Gau),f x
abbrev AER:=@List.Mem Gau
abbrev Pw a:=NA (Jg a)
abbrev ARZ a b c d e f g h:=AP a b c d e f c g h
abbrev aP a b c d e f g:=ARZ a b c d e b f g
abbrev ANX a b c d e f:=Wd (AER a b) (uO c d e f) (AZC a)
attribute [go_sem] C1 AER Pw ARZ aP ANX
theorem DBT(a:MGp):(V3Gp a)=(EM (HT (Pw a) (Jg a)) (AGY (λi=>ADN i (Pw a) (Jg a)) (Il a) (aP (Z7 a) (eY a) (gT a) (AI (Il a)) (Z7 a) (WL (Pw a)) (C1 (λi=>ANX i (Pw a) (Il a) (ASJ a) (gR a) (ASD a))))) (DO (Yu (λi=>cA a a i) (Gw a) (λi=>AXO a (Pw a) i) (DW (Pw a))) (Il a) (gR a) (eY a) (gT a))):=by kernel_rfl
theorem CZZ:AH ZP 85 (C3Gp.spec d3Gp):=Ctr.spec_ok (C:=C3Gp) (λ(a:MGp) h=>TF (A:=A3Gp) (ren:=[]) (fz:=[]) Tryz.func85 (by kernel_rfl) (AA CZR AD) (by
 obtain⟨h,hp⟩:a.l.length<4611686018427387904/\(∀x∈a.l,(MM a.q/\Rz x)):=h
 show V3Gp a;rw[DBT]<;> dsimp only[go_sem];simp[h,GC];exact hp)) _
def d4Gp:List AVal->Heap->Option (MGp×List (Nat×Nat)×List Nat)
 |[y,.fn _ [.d x] _],H=>match Ti y H with
  |some (n,g,f)=>some (⟨dLn x,HQ n λi=>dGau (g i)⟩,[],f)
  |none=>none
 |_,_=>none
def A4Gp:Ann:={ ann 9 [(85,C3Gp.spec d3Gp)] with E:=[] }
def C4Gp:Ctr:={ ro:=[],α:=MGp,xs:=λa=>[.d (TB a.l),fvGp a.q],L:=λa=>[],val:=λa=>.bool (a.l.all λx=>KU a.q x),keep:=λa=>[],pre:=PGp }
def V4Gp(a:MGp):Prop:=AS ZP A4Gp Tryz.f51 (AG Tryz.f51) (C4Gp.xs a) (AC (C4Gp.L a)) (C4Gp.val a) (C4Gp.keep a) [] []
abbrev CDG:=@List.all Gau
abbrev AQH a b:=CDG a (λi=>KU b i)
attribute [go_sem] CDG AQH
theorem DBL(a:MGp):(V4Gp a)=(EM (HT (Pw a) (Jg a)) (AGY (λi=>ADN i (Pw a) (Jg a)) (Il a) (aP (Z7 a) (eY a) (gT a) (AI (Il a)) (Z7 a) (WL (Pw a)) (C1 (λi=>ANX i (Pw a) (Il a) (ASJ a) (gR a) (ASD a))))) (jC (AQH (Jg a) (AOG a)) (λi=>AXO a (Pw a) i) (DW (Pw a)))):=by kernel_rfl
theorem DCG:AH ZP 51 (C4Gp.spec d4Gp):=Ctr.spec_ok (C:=C4Gp) (λ(a:MGp) h=>TF (A:=A4Gp) (ren:=[]) (fz:=[]) Tryz.func51 (by kernel_rfl) (AA CZZ AD) (by
 have h':a.l.length<4611686018427387904/\(∀x∈a.l,(MM a.q/\Rz x)):=h
 show V4Gp a;rw[DBL]<;> dsimp only[go_sem];simp only[CC,CU,ge_iff_le]
 rw[<-Qr]
 exact⟨h',rfl⟩)) _
def fvLr(q:One):AVal:=.fn (.func 55) [] []
def BLr(q:One):AObj:=.box [fvLr q]
structure ELr where
 q:One
 e:Ln
structure MLr where
 q:One
 l:List Ln
def C1Lr:Ctr:={ ro:=[100],α:=ELr,xs:=λa=>[.d (eLn a.e),.bptr 100 0],L:=λa=>(100,BLr a.q) :: [],val:=λa=>.bool (!mD a.e),keep:=λa=>(100,.live (BLr a.q)) :: [] }
def d1Lr:List AVal->Heap->Option (ELr×List (Nat×Nat)×List Nat)
 |[.d d,.bptr id _],H=>some (⟨default,dLn d⟩,[(100,id)],[])
 |_,_=>none
def A1Lr:Ann:={ ann 8 [(55,BVC)] with E:=[100] }
def V1Lr(a:ELr):Prop:=AS ZP A1Lr Tryz.f88 (AG Tryz.f88) (C1Lr.xs a) (AC (C1Lr.L a)) (C1Lr.val a) (C1Lr.keep a) [] []
theorem DAJ(a:ELr):(V1Lr a)=(Qe (mD (ELr.e a))):=by kernel_rfl
theorem DBN:AH ZP 88 (C1Lr.spec d1Lr):=MK C1Lr (λ_=>A1Lr) [] [] Tryz.func88 (λ_=>by kernel_rfl) (λ_=>AA APA AD) (λ(a:ELr) h=>by
 show V1Lr a;rw[DAJ]<;> dsimp only[go_sem];try simp[wr,GC]) (λ_=>OA rfl rfl) _
def d2Lr:List AVal->Heap->Option (MLr×List (Nat×Nat)×List Nat)
 |[y,.fn _ _ [.bptr id _]],H=>match Ti y H with
  |some (n,g,f)=>some (⟨default,HQ n λi=>dLn (g i)⟩,[(100,id)],f)
  |none=>none
 |_,_=>none
def A2Lr(a:MLr):Ann:={ ann 19 [(88,C1Lr.spec d1Lr)] with E:=[100],loops:=λid=>if id=2 then some [{ α:=Nat,dflt:=0,T:=λk=>⟨[(0,.d (eLns a.l)),(1,.fn (.func 88) [] [.bptr 100 0]),(7,.int a.l.length),(8,.int k)],(100,.live (BLr a.q)) :: []⟩,inv:=λk=>k<=a.l.length/\TE (λi=>!mD (gD a.l i)) a.l.length 0=TE (λi=>!mD (gD a.l i)) (a.l.length-k) k,meas:=λk=>a.l.length-k }] else none }
def PLr(a:MLr):List Prop:=[a.l.length<4611686018427387904/\True]
def C2Lr:Ctr:={ ro:=[100],α:=MLr,xs:=λa=>[.d (eLns a.l),.fn (.func 88) [] [.bptr 100 0]],L:=λa=>(100,BLr a.q) :: [],val:=λa=>.int (TE (λi=>!mD (gD a.l i)) a.l.length 0),keep:=λa=>(100,.live (BLr a.q)) :: [],pre:=PLr }
def V2Lr(a:MLr):Prop:=AS ZP (A2Lr a) Tryz.f119 (AG Tryz.f119) (C2Lr.xs a) (AC (C2Lr.L a)) (C2Lr.val a) (C2Lr.keep a) [] []
abbrev KF:=@List.length Ln
abbrev Tl:=MLr.l
abbrev Nz:=@gD Ln instInhabitedLn
abbrev Gh a:=KF (Tl a)
abbrev ATJ a b:=mD (Nz a b)
abbrev aD a b:=ATJ (Tl a) b
abbrev BOP a b c d e f:=BOH a b c (BDS d e (EV f))
abbrev NM a b:=FP (Nz a b)
abbrev MY a b:=FH (Nz a b)
abbrev NB a b:=FJ (Nz a b)
abbrev BNC a b c d e f g:=BOP a b (NB c d) (MY e f) (NM g a) (Nz g a)
abbrev kN a b:=BNC a (KF b) b a b a b
abbrev OS a b:=EV (Nz a b)
attribute [go_sem] KF Tl Nz Gh ATJ aD BOP NM MY NB BNC kN OS
theorem CYC(a:MLr):(V2Lr a)=(LR (λi=>DK (Vn (Gh a) (λj=>kN j (Tl a)) (BC i)) i (Gh a) (JJ (λj=>aD a j) (Gh a) (λj=>aD a j) i)) (λi=>WR i (Gh a) (JJ (λj=>aD a j) (Gh a) (λj=>aD a j) i) (DO (CL i (Gh a)) (NB (Tl a) i) (MY (Tl a) i) (AI (NM (Tl a) i)) (AI (OS (Tl a) i))) (Uj (aD a i) (cO (λj=>aD a j) (Gh a) i) (λj=>IK (Vn (Gh a) (λk=>kN k (Tl a)) (AR j i)) j (Gh a) (JJ (λk=>aD a k) (Gh a) (λk=>aD a k) j) i)) (Yt (λj=>aD a j) (Gh a)))):=by kernel_rfl
theorem p2Lr(a:MLr)(h:BG (PLr a)):V2Lr a:=by
 obtain⟨h,hp⟩:a.l.length<4611686018427387904/\True:=h
 rw[CYC]<;> dsimp only[go_sem]
 simp only[CC,CU]
 refine⟨⟨0,rfl,Nat.zero_le _,rfl⟩,λk ⟨h1,h2⟩=>⟨λhlt=>?_,λhge=>?_⟩⟩
 ·have hlt:k<a.l.length:=by omega
  refine⟨⟨by omega,by omega⟩,λhp=>?_,λhp=>⟨k+1,(BJ (by omega)).symm,⟨by omega,?_⟩,by omega⟩⟩
  ·rw[h2];exact YB hlt (by simpa using hp)
  ·rw[h2];exact Wv hlt (by simpa using hp)
 ·rw[h2];exact Ge (by omega)
theorem DAR:AH ZP 119 (C2Lr.spec d2Lr):=MK C2Lr A2Lr [] [] Tryz.func119 (λ_=>by kernel_rfl) (λ_=>AA DBN AD) p2Lr (λ_=>OA rfl rfl) _
def C3Lr:Ctr:={ C2Lr with val:=λ(a:MLr)=>.bool (decide (TE (λi=>!mD (gD a.l i)) a.l.length 0>=0)) }
def d3Lr:List AVal->Heap->Option (C3Lr.α×List (Nat×Nat)×List Nat):=d2Lr
def A3Lr:Ann:={ ann 9 [(119,C2Lr.spec d2Lr)] with E:=[100] }
def V3Lr(a:MLr):Prop:=AS ZP A3Lr Tryz.f87 (AG Tryz.f87) (C3Lr.xs a) (AC (C3Lr.L a)) (C3Lr.val a) (C3Lr.keep a) [] []
abbrev qH a b(c:Nat->Nat):=(@HQ Ln) a (λi=>Nz b (c i))
abbrev Mt a:=qH (KF a) a (λi=>i)
abbrev Ir a:=KF (Mt a)
abbrev AAS a:=Mt (Tl a)
abbrev Mb a b c d e f g:=eZ a b (NB c a) d (YX (MY c a) e (NM c a) f (OS c a) g)
abbrev BMO a b c d e f g h p:=Mb a b c d e (NM f g) (OS h p)
abbrev BKS a b c d e f g h:=BMO a b c d e f g f h
abbrev C5 a b c d:=BKS a b c (NB d a) (MY d a) d a a
abbrev gS a b c:=AE (λi=>C5 i a b c)
abbrev cJ a b:=gS (Ir a) b a
abbrev RY a b:=BB (KF a) b
attribute [go_sem] qH Mt Ir AAS Mb BMO BKS C5 gS cJ RY
theorem DBR(a:MLr):(V3Lr a)=(Uw (RY (AAS a) (Gh a)) (cJ (Tl a) (AAS a)) (Ir (Tl a)) (Yu (λi=>aD a i) (Gh a) (λi=>ATJ (AAS a) i) (Ir (Tl a)))):=by kernel_rfl
theorem CYQ:AH ZP 87 (C3Lr.spec d3Lr):=Ctr.spec_ok (C:=C3Lr) (λ(a:MLr) h=>TF (A:=A3Lr) (ren:=[]) (fz:=[]) Tryz.func87 (by kernel_rfl) (AA DAR AD) (by
 obtain⟨h,hp⟩:a.l.length<4611686018427387904/\True:=h
 show V3Lr a;rw[DBR]<;> dsimp only[go_sem];simp[h,GC])) _
def d4Lr:List AVal->Heap->Option (MLr×List (Nat×Nat)×List Nat)
 |[y,.fn _ _ _],H=>match Ti y H with
  |some (n,g,f)=>some (⟨default,HQ n λi=>dLn (g i)⟩,[],f)
  |none=>none
 |_,_=>none
def A4Lr:Ann:={ ann 9 [(87,C3Lr.spec d3Lr)] with E:=[] }
def C4Lr:Ctr:={ ro:=[],α:=MLr,xs:=λa=>[.d (eLns a.l),fvLr a.q],L:=λa=>[],val:=λa=>.bool (a.l.all λx=>mD x),keep:=λa=>[],pre:=PLr }
def V4Lr(a:MLr):Prop:=AS ZP A4Lr Tryz.f54 (AG Tryz.f54) (C4Lr.xs a) (AC (C4Lr.L a)) (C4Lr.val a) (C4Lr.keep a) [] []
theorem CYA(a:MLr):(V4Lr a)=(Uw (RY (AAS a) (Gh a)) (cJ (Tl a) (AAS a)) (Ir (Tl a)) (jC ((@List.all Ln) (Tl a) mD) (λi=>ATJ (AAS a) i) (Ir (Tl a)))):=by kernel_rfl
theorem CZV:AH ZP 54 (C4Lr.spec d4Lr):=Ctr.spec_ok (C:=C4Lr) (λ(a:MLr) h=>TF (A:=A4Lr) (ren:=[]) (fz:=[]) Tryz.func54 (by kernel_rfl) (AA CYQ AD) (by
 have h':a.l.length<4611686018427387904/\True:=h
 show V4Lr a;rw[CYA]<;> dsimp only[go_sem];simp only[CC,CU,ge_iff_le]
 rw[<-Qr]
 exact⟨h'.1,rfl⟩)) _
def LY(l:List Gau):Int:=bif !NJ l.length 1 24 then 3 else bif !l.all riG then 50 else 0
def dGs1:List AVal->Heap->Option (List Gau×List (Nat×Nat)×List Nat)
 |[y],H=>match BIG y H with
  |some (l,f)=>some (l,[],f)
  |none=>none
 |_,_=>none
def C_Check:Ctr:={ α:=List Gau,xs:=λl=>[.d (TB l)],L:=λ_=>[],val:=λl=>.int (LY l),keep:=λ_=>[],pre:=λl=>[l.length<4611686018427387904/\True] }
def BTV:Ann:=ann 12 [(39,My),(51,C4Gr.spec d4Gr)]
def BVA(l:List Gau):Prop:=AS ZP BTV Tryz.f21 (AG Tryz.f21) (C_Check.xs l) (AC []) (C_Check.val l) [] [] []
abbrev L5:=LY
attribute [go_sem] L5
theorem BXY(l:List Gau):(BVA l)=(Be (NJ (AZ (DW l)) 1 24) (AN (L5 l) 3) (X5 (HT (NA l) l) (JC (NA l) l) (WL (NA l)) (Be (CDG (NA l) riG) (AN (L5 l) 50) (BZ (L5 l))))):=by kernel_rfl
theorem APN:AH ZP 21 (C_Check.spec dGs1):=MK C_Check (λ_=>BTV) [] [] Tryz.func21 (λ_=>by kernel_rfl) (λ_=>AA ALI (AA DAG AD)) (λ(l:List Gau) h=>by
 show BVA l;rw[BXY]<;> dsimp only[go_sem];simp only[CC,CU]
 have h':l.length<4611686018427387904/\True:=h
 unfold LY
 cases NJ l.length 1 24<;>cases hr:l.all riG<;>simp[h'.1,hr]) (λ_=>OA rfl rfl) _
def brk:Int->List Int->Int
 |_,[]=>0
 |a,b :: r=>bif NJ b (wr (a+1)) 2000 then brk b r else 2
def UR(l:List Int):Int:=if (l.length:Int)>24 then 3 else brk 0 l
def dIs1:List AVal->Heap->Option (List Int×List (Nat×Nat)×List Nat)
 |[y],H=>match S6 y H with
  |some (l,f)=>some (l,[],f)
  |none=>none
 |_,_=>none
def C_checkB:Ctr:={ α:=List Int,xs:=λl=>[.d (BM l)],L:=λ_=>[],val:=λl=>.int (UR l),keep:=λ_=>[],pre:=λl=>[l.length<4611686018427387904/\True] }
def BHK(l:List Int):Ann:={ ann 22 [(39,My)] with loops:=λid=>if id=5 then some [{ α:=NI,dflt:=default,T:=λs=>⟨[(3,.int s.m),(9,.d (BM l)),(10,.int l.length),(11,.int s.k)],[]⟩,inv:=λs=>s.k<=l.length/\brk s.m (l.drop s.k)=brk 0 l,meas:=λs=>l.length-s.k }] else none }
def BHH(l:List Int):Prop:=AS ZP (BHK l) Tryz.f53 (AG Tryz.f53) (C_checkB.xs l) (AC []) (C_checkB.val l) [] [] []
abbrev AEE:=UR
attribute [go_sem] AEE
theorem BWR(l:List Int):(BHH l)=(Wm (hd94 (LW l) 24) (AN (AEE l) 3) (BEZ (λi=>DK (Yh (BZ (dN i)) l l l (BC (UO i))) (UO i) (BQ l) (AN (brk (dN i) (S3 (UO i) l)) (brk 0 l)))) (CAV (λi=>Ck (VU (UO i) (BQ l) (AN (brk (dN i) (S3 (UO i) l)) (brk 0 l))) (UO i) (LW l) (MZ (UO i) l) (Be (NJ (ID l (UO i)) (JF (dN i)) 2000) (AN (AEE l) 2) (BEZ (λj=>IK (Yh (AN (dN j) (ID l (UO i))) l l l (AR (UO j) (UO i))) (UO j) (BQ l) (AN (brk (dN j) (S3 (UO j) l)) (brk 0 l)) (UO i)))) (BZ (AEE l))))):=by kernel_rfl
theorem AIN:AH ZP 53 (C_checkB.spec dIs1):=MK C_checkB BHK [] [] Tryz.func53 (λ_=>by kernel_rfl) (λ_=>AA ALI AD) (λ(l:List Int) h=>by
 show BHH l;rw[BWR]<;> dsimp only[go_sem];simp only[CC,CU]
 have h':l.length<4611686018427387904/\True:=h
 unfold UR
 refine⟨λh1=>by rw[if_pos h1],λh1=>⟨⟨⟨0,0⟩,⟨rfl,rfl⟩,Nat.zero_le _,rfl⟩,λs hs=>⟨λhlt=>?_,λhge=>?_⟩⟩⟩
 ·have hlt:s.k<l.length:=by omega
  have hd:=BDR hlt
  refine⟨⟨by omega,by omega⟩,λhb=>?_,λhb=>⟨⟨s.k+1,gD l s.k⟩,⟨rfl,(BJ (by omega)).symm⟩,⟨hlt,?_⟩,?_⟩⟩
  ·rw[if_neg h1,<-hs.2,hd];simp[brk,wr,hb]
  ·show brk (gD l s.k) _=_
   rw[<-hs.2,hd];simp[brk,wr,hb]
  ·show l.length-(s.k+1)<l.length-s.k;omega
 ·rw[if_neg h1,<-hs.2,List.drop_of_length_le (by omega)];rfl) (λ_=>OA rfl rfl) _
def MD(r:Rtg):Int:=bif UR r.b != 0 then UR r.b else bif (r.l.length:Int) != (r.b.length:Int)+1 then 2 else bif !r.l.all mD then 50 else 0
def dRt1:List AVal->Heap->Option (Rtg×List (Nat×Nat)×List Nat)
 |[y],H=>match dRtg y H with
  |some (l,f)=>some (l,[],f)
  |none=>none
 |_,_=>none
def C_CheckR:Ctr:={ α:=Rtg,xs:=λr=>[.d (eRtg r)],L:=λ_=>[],val:=λr=>.int (MD r),keep:=λ_=>[],pre:=λr=>[r.b.length<4611686018427387904/\r.l.length<4611686018427387904] }
def BEO:Ann:=ann 25 [(53,C_checkB.spec dIs1),(54,C4Lr.spec d4Lr)]
def BFQ(r:Rtg):Prop:=AS ZP BEO Tryz.f22 (AG Tryz.f22) (C_CheckR.xs r) (AC []) (C_CheckR.val r) [] [] []
abbrev N3:=Rtg.b
abbrev ALK:=MD
abbrev wI:=Rtg.l
abbrev Wp a b:=RY a (KF b)
abbrev XN a:=BQ (LI a)
abbrev Qa a:=JY (XN a)
abbrev JO a:=BO (LI a) a
abbrev JZ a:=BH (LI a) a
attribute [go_sem] N3 ALK wI Wp XN Qa JO JZ
theorem BWM(r:Rtg):(BFQ r)=(X5 (JZ (N3 r)) (JO (N3 r)) (Qa (N3 r)) (nJ (AEE (LI (N3 r))) (AN (ALK r) (AEE (LI (N3 r)))) (YL (vA (AZ (KF (wI r))) (HC (BQ (N3 r)))) (AN (ALK r) 2) (Uw (Wp (Mt (wI r)) (wI r)) (cJ (wI r) (Mt (wI r))) (Ir (wI r)) (Be ((@List.all Ln) (Mt (wI r)) mD) (AN (ALK r) 50) (BZ (ALK r))))))):=by kernel_rfl
theorem AXF:AH ZP 22 (C_CheckR.spec dRt1):=MK C_CheckR (λ_=>BEO) [] [] Tryz.func22 (λ_=>by kernel_rfl) (λ_=>AA AIN (AA CZV AD)) (λ(r:Rtg) h=>by
 show BFQ r;rw[BWM]<;> dsimp only[go_sem];simp only[CC,CU]
 have h':r.b.length<4611686018427387904/\r.l.length<4611686018427387904:=h
 have e:IntKind.i64.wrap ((r.b.length:Int)+1)=(r.b.length:Int)+1:=ER (by omega) (by omega)
 rw[e]
 unfold MD
 cases h1:(UR r.b != 0)<;>cases h2:((r.l.length:Int) != (r.b.length:Int)+1)<;>cases hr:r.l.all mD<;>simp[h',h1,h2,hr]) (λ_=>OA rfl rfl) _
structure IX where
 l:List Int
 x:Int
structure IJ where
 i:Nat
 j:Nat
 deriving Inhabited
def ltC(l:List Int)(x:Int):Nat:=l.countP λb=>decide (b<x)
def iV(l:List Int)(x:Int):Nat:=l.countP λb=>decide (b<=x)
def asc(l:List Int):Prop:=l.Pairwise (· < ·)
def dIX:List AVal->Heap->Option (IX×List (Nat×Nat)×List Nat)
 |[y,.d x],H=>match S6 y H with
  |some (l,f)=>some (⟨l,DG x⟩,[],f)
  |none=>none
 |_,_=>none
def xIX(a:IX):List AVal:=[.d (BM a.l),.int a.x]
def C_bins:Ctr:={ α:=IX,xs:=xIX,L:=λ_=>[],val:=λa=>.tup [.int (ltC a.l a.x),.bool (decide (a.x∈a.l))],keep:=λ_=>[],pre:=λa=>[a.l.length<4611686018427387904/\asc a.l] }
def CGO(a:IX):Ann:={ ann 54 [(90,BWA),(91,Z5)] with loops:=λid=>if id=3 then some [{ α:=IJ,dflt:=default,T:=λs=>⟨[(0,.d (BM a.l)),(1,.int a.x),(6,.int a.l.length),(7,.int s.i),(8,.int s.j)],[]⟩,inv:=λs=>s.i<=s.j/\s.j<=a.l.length/\(∀k,k<s.i->gD a.l k<a.x)/\(∀k,s.j<=k->k<a.l.length->a.x<=gD a.l k),meas:=λs=>s.j-s.i }] else none }
def CIA(a:IX):Prop:=AS ZP (CGO a) Tryz.f56 (AG Tryz.f56) (xIX a) (AC []) (C_bins.val a) [] [] []
abbrev De:=@Exists IJ
abbrev UQ:=IX.l
abbrev Aq:=IX.x
abbrev GZ:=IJ.i
abbrev EP:=IJ.j
abbrev S2:=λ(f:IJ->Prop)=>∀(x:IJ),f x
abbrev CDV:=λ(x0:List Int) (x1:Int)=>decide (x1∈x0)
abbrev aV a b:=ID (UQ a) b
abbrev ABM a:=LW (UQ a)
abbrev Cj a b c d e:=AO a (DC b c) d e
abbrev AGU a b c:=TD (DC a b) c
abbrev AAP a:=BQ (UQ a)
abbrev rH a b:=And (MO a) b
abbrev BBC a b:=AT (GZ a) b
abbrev ZT a b:=BBC a (GZ b)
abbrev TY a b c d e f:=CB a b (DC c d) e f
attribute [go_sem] De UQ Aq GZ EP S2 CDV aV ABM Cj AGU AAP rH BBC ZT TY
theorem CNS(a:IX):(CIA a)=(And (De (λi=>TY (rH (UQ a) (DO (IU (UQ a)) (Aq a) (ABM a) (BC (GZ i)) (AT (EP i) (AAP a)))) (DC (GZ i) (EP i)) (EP i) (AAP a) (AE (λj=>HB j (GZ i) (ZK (aV a j) (Aq a)))) (AE (λj=>AGU (EP i) j (tD j (UQ a) (KM (Aq a) (aV a j))))))) (S2 (λi=>OU (Cj (DC (GZ i) (EP i)) (EP i) (AAP a) (AE (λj=>HB j (GZ i) (ZK (aV a j) (Aq a)))) (AE (λj=>AGU (EP i) j (tD j (UQ a) (KM (Aq a) (aV a j)))))) (GZ i) (EP i) (AQ (Er 1 (AZ 64)) (FV (bI (BKV (Rw (CP (AZ (GZ i)) (AZ (EP i)))) 2 1)) (AAP a)) (YL (cT (BKI (UQ a) (bI (APH (Rw (CP (AZ (GZ i)) (AZ (EP i)))) 1))) (Aq a)) (De (λj=>AZB (rH (UQ a) (DO (IU (UQ a)) (Aq a) (ABM a) (TO (GZ j) (JF (bI (APH (Rw (CP (AZ (GZ i)) (AZ (EP i)))) 1)))) (AT (EP j) (EP i)))) (Cj (DC (GZ j) (EP j)) (EP j) (AAP a) (AE (λk=>HB k (GZ j) (ZK (aV a k) (Aq a)))) (AE (λk=>AGU (EP j) k (tD k (UQ a) (KM (Aq a) (aV a k)))))) (EP j) (GZ j) (EP i) (GZ i))) (De (λj=>AZB (rH (UQ a) (DO (IU (UQ a)) (Aq a) (ABM a) (ZT j i) (TO (EP j) (bI (APH (Rw (CP (AZ (GZ i)) (AZ (EP i)))) 1))))) (Cj (DC (GZ j) (EP j)) (EP j) (AAP a) (AE (λk=>HB k (GZ j) (ZK (aV a k) (Aq a)))) (AE (λk=>AGU (EP j) k (tD k (UQ a) (KM (Aq a) (aV a k)))))) (EP j) (GZ j) (EP i) (GZ i))))) (CV (RN (RL (GZ i) (ABM a)) (MZ (GZ i) (UQ a))) (RN (and (RL (GZ i) (ABM a)) (not (wP (aV a (GZ i)) (Aq a)))) (MZ (GZ i) (UQ a))) (AT (ltC (UQ a) (Aq a)) (GZ i)) (SQ (CDV (UQ a) (Aq a)) (RL (GZ i) (ABM a)) (Hc (wP (aV a (GZ i)) (Aq a)) (AUS P8 P8))))))):=by kernel_rfl
theorem u64w{n:Int}(h0:0<=n)(h1:n<18446744073709551616):IntKind.u64.wrap n=n:=by
 simp only[IntKind.wrap,IntKind.bits,IntKind.signed]
 have:n % (2 ^ 64:Int)=n:=Int.emod_eq_of_lt h0 (by omega)
 simp only[this]
 simp
theorem half{i j:Nat}(h:i+j<9223372036854775807):IntKind.i64.wrap (IntKind.u64.wrap (IntKind.i64.wrap ((i:Int)+j)) / 2 ^ Int.toNat 1)=(((i+j) / 2:Nat):Int):=by
 rw[ER (n:=(i:Int)+j) (by omega) (by omega),u64w (by omega) (by omega)]
 show IntKind.i64.wrap (((i:Int)+j) / 2)=_
 rw[ER (by omega) (by omega)];omega
theorem APC{p:Int->Bool}{l:List Int}{i:Nat}(hi:i<=l.length)(h1:∀k,k<i->p (gD l k)=true)(h2:∀k,i<=k->k<l.length->p (gD l k)=false):l.countP p=i:=by
 conv=>lhs;rw[<-List.take_append_drop i l]
 rw[List.countP_append]
 have e1:(l.take i).countP p=i:=by
  rw[List.countP_eq_length.2]
  ·simp;omega
  ·intro x hx
   obtain⟨k,hk,rfl⟩:=List.getElem_of_mem hx
   have hk':k<i:=by simp at hk;omega
   have:=h1 k hk'
   simpa[gD,List.getD_eq_getElem?_getD,show k<l.length by omega] using this
 have e2:(l.drop i).countP p=0:=by
  rw[List.countP_eq_zero]
  intro x hx
  obtain⟨k,hk,rfl⟩:=List.getElem_of_mem hx
  have hk':i+k<l.length:=by simp at hk;omega
  have:=h2 (i+k) (by omega) hk'
  simp[gD,List.getD_eq_getElem?_getD,hk'] at this
  simp[this]
 omega
theorem mF{l:List Int}(h:asc l){i j:Nat}(hij:i<j)(hj:j<l.length):gD l i<gD l j:=by
 have:=List.pairwise_iff_getElem.1 h i j (by omega) hj hij
 simpa[gD,List.getD_eq_getElem?_getD,hj,show i<l.length by omega] using this
theorem CUX{l:List Int}{x:Int}{i:Nat}(h:asc l)(hi:i<=l.length)(h1:∀k,k<i->gD l k<x)(h2:∀k,i<=k->k<l.length->x<=gD l k):decide (x∈l)=(decide ((i:Int)<l.length)&&gD l i==x):=by
 rw[Bool.eq_iff_iff]
 simp only[decide_eq_true_eq,Bool.and_eq_true,beq_iff_eq]
 constructor
 ·intro hx
  obtain⟨k,hk,rfl⟩:=Hq hx
  have hik:i<=k:=by
   rcases Nat.lt_or_ge k i with h3 | h3
   ·have:=h1 k h3;omega
   ·exact h3
  refine⟨by omega,?_⟩
  rcases Nat.lt_or_ge i k with h3 | h3
  ·have:=mF h h3 hk
   have:=h2 i (Nat.le_refl _) (by omega)
   omega
  ·rw[show i=k by omega]
 ·rintro⟨h3,rfl⟩
  exact FD (by omega)
theorem CPG:AH ZP 56 (C_bins.spec dIX):=MK C_bins CGO [] [] Tryz.func56 (λ_=>by kernel_rfl) (λ_=>AA BYX (AA CQK AD)) (λ(a:IX) h=>by
 show CIA a;rw[CNS]<;> dsimp only[go_sem];simp only[CC,CU]
 obtain⟨hl,ha⟩:a.l.length<4611686018427387904/\asc a.l:=h
 refine⟨⟨⟨0,a.l.length⟩,⟨rfl,rfl⟩,Nat.zero_le _,Nat.le_refl _,λk hk=>absurd hk (Nat.not_lt_zero k),λk h1 h2=>absurd h2 (by have h1:a.l.length<=k:=h1;omega)⟩,λs ⟨h1,h2,h3,h4⟩=>⟨λhlt=>?_,λhge=>?_⟩⟩
 ·have hlt:s.i<s.j:=by omega
  have hh:=half (i:=s.i) (j:=s.j) (by omega)
  obtain⟨m,hm⟩:∃m,m=(s.i+s.j) / 2:=⟨_,rfl⟩
  have hh':IntKind.i64.wrap (IntKind.u64.wrap (IntKind.i64.wrap ((s.i:Int)+s.j)) / 2 ^ 1)=(m:Int):=by rw[hm];exact hh
  rw[<-hm] at hh
  rw[hh,hh']
  have hm1:s.i<=m:=by omega
  have hm2:m<s.j:=by omega
  refine⟨by omega,⟨by omega,by omega⟩,λhx=>⟨⟨m+1,s.j⟩,⟨(BJ (by omega)).symm,rfl⟩,⟨by show m+1<=s.j;omega,h2,λk hk=>?_,h4⟩,by show s.j-(m+1)<s.j-s.i;omega⟩,λhx=>⟨⟨s.i,m⟩,⟨rfl,rfl⟩,⟨hm1,by show m<=_;omega,h3,λk h5 h6=>?_⟩,by show m-s.i<s.j-s.i;omega⟩⟩
  ·have hk:k<m+1:=hk
   simp only[Int.toNat_natCast] at hx
   rcases Nat.lt_or_ge k m with h7 | h7
   ·have:=mF ha h7 (by omega);omega
   ·rw[show k=m by omega];exact hx
  ·have h5:m<=k:=h5
   simp only[Int.toNat_natCast] at hx
   rcases Nat.lt_or_ge m k with h7 | h7
   ·have:=mF ha h7 h6;omega
   ·rw[show k=m by omega];omega
 ·have he:s.i=s.j:=by omega
  have h4:∀k,s.i<=k->k<a.l.length->a.x<=gD a.l k:=by rw[he];exact h4
  refine⟨⟨λh5=>by omega,λh5=>by simp at h5;omega⟩,?_,?_⟩
  ·have:=APC (p:=λb=>decide (b<a.x)) (l:=a.l) (i:=s.i) (by omega) (λk hk=>by simpa using h3 k hk) (λk h5 h6=>by have:=h4 k h5 h6;simp;omega)
   unfold ltC;omega
  ·rw[CUX ha (by omega) h3 h4]
   cases decide ((s.i:Int)<a.l.length)<;>cases (gD a.l s.i==a.x)<;>rfl) (λ_=>OA rfl rfl) _
theorem BYR{l:List Int}{x:Int}(h:asc l):(iV l x:Int)=if x∈l then (ltC l x:Int)+1 else ltC l x:=by
 unfold iV ltC
 induction l with
 |nil=>simp
 |cons b r ih=>
  obtain⟨h1,h2⟩:=List.pairwise_cons.1 h
  have ih:=ih h2
  by_cases hb:b=x
  ·subst hb
   have:b∉r:=λhm=>absurd (h1 b hm) (by omega)
   simp only[this,if_false] at ih
   simp;omega
  ·by_cases hm:x∈r
   ·have h3:=h1 x hm
    simp only[hm,if_true] at ih
    simp[hm,h3,show b<=x by omega]
    omega
   ·simp only[hm,if_false] at ih
    have hne:x≠b:=λh=>hb h.symm
    simp only[List.mem_cons,hne,hm,or_self,if_false,List.countP_cons]
    by_cases h3:b<x
    ·simp[h3,show b<=x by omega];omega
    ·simp[h3,show ¬ b<=x by omega];omega
def C_part:Ctr:={ C_bins with val:=λ(a:IX)=>.int (iV a.l a.x) }
def BYI:Ann:=ann 17 [(56,C_bins.spec dIX)]
def CGE(a:IX):Prop:=AS ZP BYI Tryz.f23 (AG Tryz.f23) (xIX a) (AC []) (C_part.val a) [] [] []
abbrev Aj(a:Int->Int->Prop) b:=(@List.Pairwise Int) a (LI b)
attribute [go_sem] Aj
theorem CNU(a:IX):(CGE a)=(And (PO (JZ (UQ a)) (JO (UQ a)) (Aq a) (Qa (UQ a)) (Aj ZK (UQ a))) (YL (CDV (LI (UQ a)) (Aq a)) (AR (iV (UQ a) (Aq a)) (ltC (LI (UQ a)) (Aq a))) (AT (iV (UQ a) (Aq a)) (ltC (LI (UQ a)) (Aq a))))):=by kernel_rfl
theorem AET:AH ZP 23 (C_part.spec dIX):=Ctr.spec_ok (C:=C_part) (λ(a:IX) h=>TF (A:=BYI) (L:=[]) (keep:=[]) (ren:=[]) (fz:=[]) Tryz.func23 (by kernel_rfl) (AA CPG AD) (by
 show CGE a;rw[CNU]<;> dsimp only[go_sem];simp only[CC,CU]
 have h:a.l.length<4611686018427387904/\asc a.l:=h
 refine⟨h,λhm=>?_,λhm=>?_⟩
 ·rw[BYR h.2,if_pos hm,ER (by omega) (by have:ltC a.l a.x<=a.l.length:=List.countP_le_length;omega)]
 ·rw[BYR h.2,if_neg hm])) _
end Go.Bal
