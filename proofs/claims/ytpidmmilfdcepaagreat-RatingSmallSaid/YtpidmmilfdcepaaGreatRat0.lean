/- Package rating: data, and how they read. -/
import Derived.Test.YtpidmmilfdcepaaGreatCom0
set_option linter.unusedVariables false
set_option linter.unusedSimpArgs false
namespace Go.Bal
open Go Go.Sym Go.Proofs
structure Gau where
 st:Int
 lo:Int
 hi:Int
 deriving Inhabited,DecidableEq
structure Pt where
 st:Int
 fl:Int
 deriving Inhabited,DecidableEq
structure Ln where
 a0:Int
 a1:Int
 b0:Int
 b1:Int
 deriving Inhabited,DecidableEq
structure Rt where
 n:Int
 d:Int
 deriving Inhabited,DecidableEq
structure Bnd where
 lo:Rt
 hi:Rt
 deriving Inhabited,DecidableEq
structure Rtg where
 b:List Int
 l:List Ln
 deriving Inhabited,DecidableEq
def Ry(g:Gau):DVal:=.agg [NY g.st,NY g.lo,NY g.hi]
def ePt(p:Pt):DVal:=.agg [NY p.st,NY p.fl]
def eLn(x:Ln):DVal:=.agg [NY x.a0,NY x.a1,NY x.b0,NY x.b1]
def G2(r:Rt):DVal:=.agg [NY r.n,NY r.d]
def eBnd(b:Bnd):DVal:=.agg [NY b.lo.n,NY b.lo.d,NY b.hi.n,NY b.hi.d]
def AT(l:List Gau):DVal:=lst 3 l.length λi=>Ry (gD l i)
def ePts(l:List Pt):DVal:=lst 2 l.length λi=>ePt (gD l i)
def Qr(l:List Ln):DVal:=lst 4 l.length λi=>eLn (gD l i)
def eRtg(r:Rtg):DVal:=.agg [AZ r.b,Qr r.l]
def Ky:DVal->Gau
 | .agg [a,b,c]=>⟨EG a,EG b,EG c⟩
 |_=>default
def dPt:DVal->Pt
 | .agg [a,b]=>⟨EG a,EG b⟩
 |_=>default
def dLn:DVal->Ln
 | .agg [a,b,c,d]=>⟨EG a,EG b,EG c,EG d⟩
 |_=>default
def dRt:DVal->Rt
 | .agg [a,b]=>⟨EG a,EG b⟩
 |_=>default
theorem CGR(g:Gau):Ky (Ry g)=g:=rfl
theorem CXO(g:Pt):dPt (ePt g)=g:=rfl
theorem DAI(g:Ln):dLn (eLn g)=g:=rfl
theorem DBE(g:Rt):dRt (G2 g)=g:=rfl
def Ht(a:AVal)(H:Heap):Option (List Gau×List Nat):=match dRow a H with
 |some (n,g,f)=>some (HA n λi=>Ky (g i),f)
 |none=>none
def dPts(a:AVal)(H:Heap):Option (List Pt×List Nat):=match dRow a H with
 |some (n,g,f)=>some (HA n λi=>dPt (g i),f)
 |none=>none
def dLns(a:AVal)(H:Heap):Option (List Ln×List Nat):=match dRow a H with
 |some (n,g,f)=>some (HA n λi=>dLn (g i),f)
 |none=>none
def dRtg:AVal->Heap->Option (Rtg×List Nat)
 | .d (.agg [.list _ n f _,.list _ m g _]),_=>some (⟨HA n λi=>EG (f i),HA m λi=>dLn (g i)⟩,[])
 | .agg [a,b],H=>match Xt a H,dLns b H with
  |some (x,f1),some (y,f2)=>some (⟨x,y⟩,f1 ++ f2)
  |_,_=>none
 |_,_=>none
def pD{α:Type}(dec:List AVal->Option α)(val:α->AVal)(pre:α->List Prop:=λ_=>[]):Sym.Spec:=AAM λxs=>match dec xs with
 |some a=>some (val a,pre a)
 |none=>none
theorem OG{α:Type}{g:FuncId}{dec:List AVal->Option α}{val:α->AVal}{pre:α->List Prop}(enc:α->List AVal)(hde:∀xs a,dec xs=some a->xs=enc a)(h:∀a,DJ (pre a)->FnT ZP g (enc a) (AB []) (val a) []):AH ZP g (pD dec val pre):=AHQ λxs v p hf hp=>by
 split at hf
 ·rename_i a ha
  cases hf
  rw[hde xs a ha];exact h a hp
 ·cases hf
def dI1:List AVal->Option Int
 |[.d (.v (.int .i64 a))]=>some a
 |_=>none
def xI1(a:Int):List AVal:=[.int a]
theorem hI1(xs:List AVal)(a:Int)(h:dI1 xs=some a):xs=xI1 a:=by
 unfold dI1 at h;split at h<;>cases h;rfl
structure I2 where
 a:Int
 b:Int
structure I3 where
 a:Int
 b:Int
 c:Int
def dI2:List AVal->Option I2
 |[.d (.v (.int .i64 a)),.d (.v (.int .i64 b))]=>some ⟨a,b⟩
 |_=>none
def xI2(x:I2):List AVal:=[.int x.a,.int x.b]
theorem hI2(xs:List AVal)(a:I2)(h:dI2 xs=some a):xs=xI2 a:=by
 unfold dI2 at h;split at h<;>cases h;rfl
def dI3:List AVal->Option I3
 |[.d (.v (.int .i64 a)),.d (.v (.int .i64 b)),.d (.v (.int .i64 c))]=>some ⟨a,b,c⟩
 |_=>none
def xI3(x:I3):List AVal:=[.int x.a,.int x.b,.int x.c]
theorem hI3(xs:List AVal)(a:I3)(h:dI3 xs=some a):xs=xI3 a:=by
 unfold dI3 at h;split at h<;>cases h;rfl
def dG1:List AVal->Option Gau
 |[.d (.agg [.v (.int .i64 a),.v (.int .i64 b),.v (.int .i64 c)])]=>some ⟨a,b,c⟩
 |_=>none
def xG1(g:Gau):List AVal:=[.d (Ry g)]
theorem hG1(xs:List AVal)(a:Gau)(h:dG1 xs=some a):xs=xG1 a:=by
 unfold dG1 at h;split at h<;>cases h;rfl
def dP1:List AVal->Option Pt
 |[.d (.agg [.v (.int .i64 a),.v (.int .i64 b)])]=>some ⟨a,b⟩
 |_=>none
def xP1(g:Pt):List AVal:=[.d (ePt g)]
theorem hP1(xs:List AVal)(a:Pt)(h:dP1 xs=some a):xs=xP1 a:=by
 unfold dP1 at h;split at h<;>cases h;rfl
def dL1:List AVal->Option Ln
 |[.d (.agg [.v (.int .i64 a),.v (.int .i64 b),.v (.int .i64 c),.v (.int .i64 d)])]=>some ⟨a,b,c,d⟩
 |_=>none
def xL1(g:Ln):List AVal:=[.d (eLn g)]
theorem hL1(xs:List AVal)(a:Ln)(h:dL1 xs=some a):xs=xL1 a:=by
 unfold dL1 at h;split at h<;>cases h;rfl
structure LnI where
 x:Ln
 s:Int
def dLI:List AVal->Option LnI
 |[.d (.agg [.v (.int .i64 a),.v (.int .i64 b),.v (.int .i64 c),.v (.int .i64 d)]),.d (.v (.int .i64 s))]=>some ⟨⟨a,b,c,d⟩,s⟩
 |_=>none
def xLI(a:LnI):List AVal:=[.d (eLn a.x),.int a.s]
theorem hLI(xs:List AVal)(a:LnI)(h:dLI xs=some a):xs=xLI a:=by
 unfold dLI at h;split at h<;>cases h;rfl
structure LnG where
 x:Ln
 g:Gau
def dLG:List AVal->Option LnG
 |[.d (.agg [.v (.int .i64 a),.v (.int .i64 b),.v (.int .i64 c),.v (.int .i64 d)]),.d (.agg [.v (.int .i64 p),.v (.int .i64 q),.v (.int .i64 r)])]=>some ⟨⟨a,b,c,d⟩,⟨p,q,r⟩⟩
 |_=>none
def xLG(a:LnG):List AVal:=[.d (eLn a.x),.d (Ry a.g)]
theorem hLG(xs:List AVal)(a:LnG)(h:dLG xs=some a):xs=xLG a:=by
 unfold dLG at h;split at h<;>cases h;rfl
def dR1:List AVal->Option Rt
 |[.d (.agg [.v (.int .i64 a),.v (.int .i64 b)])]=>some ⟨a,b⟩
 |_=>none
def xR1(g:Rt):List AVal:=[.d (G2 g)]
theorem hR1(xs:List AVal)(a:Rt)(h:dR1 xs=some a):xs=xR1 a:=by
 unfold dR1 at h;split at h<;>cases h;rfl
def dR2:List AVal->Option Bnd
 |[.d (.agg [.v (.int .i64 a),.v (.int .i64 b)]),.d (.agg [.v (.int .i64 c),.v (.int .i64 d)])]=>some ⟨⟨a,b⟩,⟨c,d⟩⟩
 |_=>none
def xR2(g:Bnd):List AVal:=[.d (G2 g.lo),.d (G2 g.hi)]
theorem hR2(xs:List AVal)(a:Bnd)(h:dR2 xs=some a):xs=xR2 a:=by
 unfold dR2 at h;split at h<;>cases h;rfl
def orS(s t:Sym.Spec):Sym.Spec:=λxs H r=>match s xs H r with
 |some x=>some x
 |none=>t xs H r
theorem pR{g:FuncId}{s t:Sym.Spec}(h1:AH ZP g s)(h2:AH ZP g t):AH ZP g (orS s t):=λxs H r x hx hp=>by
 unfold orS at hx
 split at hx
 ·rename_i y hy;cases hx;exact h1 xs H r _ hy hp
 ·exact h2 xs H r x hx hp
theorem mulb{a b A B:Int}(h1:0<=a)(h2:a<=A)(h3:0<=b)(h4:b<=B):0<=a*b/\a*b<=A*B:=
 ⟨Int.mul_nonneg h1 h3,Int.mul_le_mul h2 h4 h3 (by omega)⟩
theorem CZB{a b A B:Int}(h1:-A<=a)(h2:a<=A)(h3:-B<=b)(h4:b<=B):-(A*B)<=a*b/\a*b<=A*B:=by
 have hA:0<=A:=by omega
 have hB:0<=B:=by omega
 rcases Int.le_total 0 a with ha | ha<;>rcases Int.le_total 0 b with hb | hb
 ·have:=mulb ha h2 hb h4
  have:0<=A*B:=Int.mul_nonneg hA hB
  omega
 ·have:=mulb ha h2 (show 0 <= -b by omega) (show -b<=B by omega)
  rw[Int.mul_neg] at this
  have:0<=A*B:=Int.mul_nonneg hA hB
  omega
 ·have:=mulb (show 0 <= -a by omega) (show -a<=A by omega) hb h4
  rw[Int.neg_mul] at this
  have:0<=A*B:=Int.mul_nonneg hA hB
  omega
 ·have:=mulb (show 0 <= -a by omega) (show -a<=A by omega) (show 0 <= -b by omega) (show -b<=B by omega)
  rw[Int.neg_mul_neg] at this
  have:0<=A*B:=Int.mul_nonneg hA hB
  omega
theorem CC:((∀{b:Bool} {p q:Prop},(bif b then p else q)=((b=true->p)/\(b=false->q)))/\(∀(p:Prop),(p/\p)=p)/\(∀(p:Prop),(True/\p)=p)/\(∀(p:Prop),(p/\True)=p)/\(∀(p:Prop),(True->p)=p)/\(∀{p:Prop} [inst:Decidable p],(decide p=true)=p)/\(∀{p:Prop} {x:Decidable p},decide p=false↔¬p))/\(∀(n:Nat),(n:Int).toNat=n)/\(∀(s:Span),ATN (AHZ s)=s)/\(∀(n:Int),EG (NY n)=n)/\(∀(g:Gau),Ky (Ry g)=g)/\(∀(g:Pt),dPt (ePt g)=g)/\(∀(g:Ln),dLn (eLn g)=g)/\(∀(g:Rt),dRt (G2 g)=g)/\(∀(n:Nat),0+n=n)/\(∀(a:Int),0-a=-a)/\(∀{x y:Nat},x.le y=(x<=y))/\(∀(n:Nat),n.succ=n+1)/\(∀{n m:Nat},n+1<=m↔n<m)/\(∀(b:Bool),((!b)=true)=(b=false))/\(∀(b:Bool),((!b)=false)=(b=true))/\(∀{α:Type} (n:Nat) (f:Nat->α),(HA n f).length=n)/\(∀(a b:Int),ATN (.agg [NY a,NY b])=⟨a,b⟩)/\(∀{α:Type} [Inhabited α] (l:List α),(HA l.length λi=>gD l i)=l):=⟨⟨BDF,and_self,true_and,and_true,true_implies,decide_eq_true_eq,decide_eq_false_iff_not⟩,Int.toNat_natCast,dSpan_eSpan,dInt_eInt,CGR,CXO,DAI,DBE,Nat.zero_add,Int.zero_sub,Nat.le_eq,Nat.succ_eq_add_one,Nat.add_one_le_iff,Bool.not_eq_true',Bool.not_eq_false',rng_length,CBM,RB⟩
theorem CU.{u}:(∀{α:Sort u} (a:α),(a=a)=True)/\(∀(α:Sort u),(α->True)=True)/\(∀{p:Prop} (α:Sort u) [Nonempty α],(α->p)=p):=⟨eq_self,implies_true,λα _=>propext (forall_const α)⟩
end Go.Bal
namespace Go.Bal.DL
open Go.Sym Go
theorem g1(s:Gau):Ky (Ry s)=s:=rfl
theorem g2(s:Pt):dPt (ePt s)=s:=rfl
theorem g3(s:Ln):dLn (eLn s)=s:=rfl
theorem g4(s:Rt):dRt (G2 s)=s:=rfl
theorem h1(a b c:Int):Ky (.agg [NY a,NY b,NY c])=Gau.mk a b c:=rfl
theorem h2(a b:Int):dPt (.agg [NY a,NY b])=Pt.mk a b:=rfl
theorem h3(a b c d:Int):dLn (.agg [NY a,NY b,NY c,NY d])=Ln.mk a b c d:=rfl
theorem h4(a b:Int):dRt (.agg [NY a,NY b])=Rt.mk a b:=rfl
theorem k1(s:Gau):Gau.mk s.st s.lo s.hi=s:=rfl
theorem k2(s:Pt):Pt.mk s.st s.fl=s:=rfl
theorem k3(s:Ln):Ln.mk s.a0 s.a1 s.b0 s.b1=s:=rfl
theorem k4(s:Rt):Rt.mk s.n s.d=s:=rfl
end Go.Bal.DL
namespace Go.Bal
open Go Go.Sym Go.Proofs
def wr(n:Int):Int:=IntKind.i64.wrap n
def JD(a b c:Int):Bool:=decide (b<=a)&&decide (a<=c)
def riG(g:Gau):Bool:=JD g.st 0 2000&&JD g.lo 0 g.hi&&JD g.hi 0 200000
def riP(p:Pt):Bool:=JD p.st 0 2000&&JD p.fl 0 200000
def Kv(x:Ln):Bool:=riP ⟨x.a0,x.a1⟩&&riP ⟨x.b0,x.b1⟩&&decide (x.a0<x.b0)&&decide (x.a1<=x.b1)
def V_in(x:I3):Prop:=AS ZP (ann 15 []) Tryz.f49 (AE Tryz.f49) (xI3 x) (AB []) (.bool (JD x.a x.b x.c)) [] [] []
abbrev Va:=@Eq Bool
abbrev hd5:=@cond Bool
abbrev hd6:=λ(x0 x1:Int)=>decide (x0>=x1)
abbrev hd7:=λ(x0 x1:Int)=>decide (x0<=x1)
abbrev hd8:=false
abbrev EP a b:=hd5 a b hd8
abbrev Mn a b c:=Va a (EP b c)
attribute [go_sem] Va hd5 hd6 hd7 hd8 EP Mn
theorem DAP(x:I3):(V_in x)=(Mn (JD (I3.a x) (I3.b x) (I3.c x)) (hd6 (I3.a x) (I3.b x)) (hd7 (I3.a x) (I3.c x))):=by kernel_rfl
def G4:=pD dI3 λx=>.bool (JD x.a x.b x.c)
theorem aH:AH ZP 49 G4:=OG xI3 hI3 λx _=>WP (A:=ann 15 []) (ren:=[]) (fz:=[]) Tryz.func49 (by kernel_rfl) AD (by
 show V_in x;rw[DAP]<;> dsimp only[go_sem];unfold JD;by_cases h:x.b<=x.a<;>simp[h])
def CQA(g:Gau):Prop:=AS ZP (ann 21 [(49,G4)]) Tryz.f51 (AE Tryz.f51) (xG1 g) (AB []) (.bool (riG g)) [] [] []
abbrev Wk:=Gau.st
abbrev tE:=Gau.lo
abbrev Qo:=Gau.hi
abbrev AWN a b c:=EP (EP a b) c
abbrev gL a b:=JD a 0 b
attribute [go_sem] Wk tE Qo AWN gL
theorem CWI(g:Gau):(CQA g)=(Va (riG g) (AWN (gL (Wk g) 2000) (gL (tE g) (Qo g)) (gL (Qo g) 200000))):=by kernel_rfl
def CNT:=pD dG1 λg=>.bool (riG g)
theorem CWA:AH ZP 51 CNT:=OG xG1 hG1 λg _=>WP (A:=ann 21 [(49,G4)]) (ren:=[]) (fz:=[]) Tryz.func51 (by kernel_rfl) (AA aH AD) (by
 show CQA g;rw[CWI]<;> dsimp only[go_sem];unfold riG;cases JD g.st 0 2000<;>cases JD g.lo 0 g.hi<;>simp)
def CQP(g:Pt):Prop:=AS ZP (ann 11 [(49,G4)]) Tryz.f103 (AE Tryz.f103) (xP1 g) (AB []) (.bool (riP g)) [] [] []
abbrev hd14:=Pt.st
abbrev rI:=Pt.fl
attribute [go_sem] hd14 rI
theorem CVH(g:Pt):(CQP g)=(Mn (riP g) (gL (hd14 g) 2000) (gL (rI g) 200000)):=by kernel_rfl
def CAK:=pD dP1 λg=>.bool (riP g)
theorem CSU:AH ZP 103 CAK:=OG xP1 hP1 λg _=>WP (A:=ann 11 [(49,G4)]) (ren:=[]) (fz:=[]) Tryz.func103 (by kernel_rfl) (AA aH AD) (by
 show CQP g;rw[CVH]<;> dsimp only[go_sem];unfold riP;cases JD g.st 0 2000<;>simp)
def CPL(g:Ln):Prop:=AS ZP (ann 29 [(103,CAK)]) Tryz.f54 (AE Tryz.f54) (xL1 g) (AB []) (.bool (Kv g)) [] [] []
abbrev hd17:=Pt.mk
abbrev MG:=Ln.a0
abbrev QT:=Ln.a1
abbrev RU:=Ln.b0
abbrev SJ:=Ln.b1
abbrev Tx:=λ(x0 x1:Int)=>decide (x0<x1)
attribute [go_sem] hd17 MG QT RU SJ Tx
theorem CUB(g:Ln):(CPL g)=(Mn (Kv g) (AWN (riP (hd17 (MG g) (QT g))) (riP (hd17 (RU g) (SJ g))) (Tx (MG g) (RU g))) (hd7 (QT g) (SJ g))):=by kernel_rfl
def AQB:=pD dL1 λg=>.bool (Kv g)
theorem K6:AH ZP 54 AQB:=OG xL1 hL1 λg _=>WP (A:=ann 29 [(103,CAK)]) (ren:=[]) (fz:=[]) Tryz.func54 (by kernel_rfl) (AA CSU AD) (by
 show CPL g;rw[CUB]<;> dsimp only[go_sem];unfold Kv;cases riP ⟨g.a0,g.a1⟩<;>cases riP ⟨g.b0,g.b1⟩<;>by_cases h:g.a0<g.b0<;>simp[h])
def CEP(x:Int):Prop:=AS ZP (ann 6 []) Tryz.f118 (AE Tryz.f118) (xI1 x) (AB []) (.bool false) [] [] []
abbrev hd23:=@bne Int (@instBEqOfDecidableEq Int Int.instDecidableEq)
abbrev Qh a:=hd23 a a
attribute [go_sem] hd23 Qh
theorem CIV(x:Int):(CEP x)=(Va hd8 (Qh x)):=by kernel_rfl
def O7:=pD dI1 λ_=>.bool false
theorem BPN:AH ZP 118 O7:=OG xI1 hI1 λg _=>WP (A:=ann 6 []) (ren:=[]) (fz:=[]) Tryz.func118 (by kernel_rfl) AD (by
 show CEP g;rw[CIV]<;> dsimp only[go_sem];simp)
def CGB(x:Int):Prop:=AS ZP (ann 6 []) Tryz.f128 (AE Tryz.f128) (xI1 x) (AB []) (.bool false) [] [] []
theorem CLX(x:Int):(CGB x)=(Va hd8 (Qh x)):=by kernel_rfl
theorem CHH:AH ZP 128 O7:=OG xI1 hI1 λg _=>WP (A:=ann 6 []) (ren:=[]) (fz:=[]) Tryz.func128 (by kernel_rfl) AD (by
 show CGB g;rw[CLX]<;> dsimp only[go_sem];simp)
def BNW(x:I2):Prop:=AS ZP (ann 17 [(118,O7)]) Tryz.f127 (AE Tryz.f127) (xI2 x) (AB []) (.bool (decide (x.a<x.b))) [] [] []
abbrev Ie:=I2.a
abbrev Vn:=I2.b
abbrev aN:=true
abbrev JR a b:=hd5 a aN b
abbrev BTE a b:=hd5 a b a
attribute [go_sem] Ie Vn aN JR BTE
theorem BXV(x:I2):(BNW x)=(Va (Tx (Ie x) (Vn x)) (JR (BTE hd8 (not hd8)) (Tx (Ie x) (Vn x)))):=by kernel_rfl
def BRU:=pD dI2 λx=>.bool (decide (x.a<x.b))
theorem BVV:AH ZP 127 BRU:=OG xI2 hI2 λg _=>WP (A:=ann 17 [(118,O7)]) (ren:=[]) (fz:=[]) Tryz.func127 (by kernel_rfl) (AA BPN AD) (by
 show BNW g;rw[BXV]<;> dsimp only[go_sem];try simp)
def Ib(a b:Int):Int:=bif decide (a<b) then -1 else bif decide (a>b) then 1 else 0
def CAF(x:I2):Prop:=AS ZP (ann 20 [(118,O7)]) Tryz.f81 (AE Tryz.f81) (xI2 x) (AB []) (.int (Ib x.a x.b)) [] [] []
abbrev HZ:=@cond Prop
abbrev BM:=@Eq Int
abbrev hd30:=Ib
abbrev Oa:=λ(x0 x1:Int)=>decide (x0>x1)
abbrev CL a:=BM a 0
attribute [go_sem] HZ BM hd30 Oa CL
theorem CJR(x:I2):(CAF x)=(HZ (Tx (Ie x) (Vn x)) (BM (hd30 (Ie x) (Vn x)) (-1)) (HZ (Oa (Ie x) (Vn x)) (BM (hd30 (Ie x) (Vn x)) 1) (CL (hd30 (Ie x) (Vn x))))):=by kernel_rfl
def N8:=pD dI2 λx=>.int (Ib x.a x.b)
theorem AJK:AH ZP 81 N8:=OG xI2 hI2 λg _=>WP (A:=ann 20 [(118,O7)]) (ren:=[]) (fz:=[]) Tryz.func81 (by kernel_rfl) (AA BPN AD) (by
 show CAF g;rw[CJR]<;> dsimp only[go_sem];unfold Ib;by_cases h:g.a<g.b<;>by_cases h2:g.b<g.a<;>simp[h,h2])
structure IL where
 a:Int
 l:List Int
def grM(x:IL):Int:=x.l.foldl maxI x.a
structure NI where
 k:Nat
 m:Int
 deriving Inhabited
def C_gr:Ctr:={ α:=IL,xs:=λx=>[.int x.a,.d (AZ x.l)],L:=λ_=>[],val:=λx=>.int (grM x),keep:=λ_=>[],pre:=λx=>[decide (x.l.length<4611686018427387904)=true] }
def d_gr:List AVal->Heap->Option (IL×List (Nat×Nat)×List Nat)
 |[.d a,y],H=>match Xt y H with
  |some (l,f)=>some (⟨EG a,l⟩,[],f)
  |none=>none
 |_,_=>none
def A_gr(x:IL):Ann:={ ann 18 [] with loops:=λid=>if id=2 then some [{ α:=NI,dflt:=default,T:=λs=>⟨[(0,.int s.m),(7,.d (AZ x.l)),(8,.int x.l.length),(9,.int s.k)],[]⟩,inv:=λs=>s.k<=x.l.length/\s.m=(x.l.take s.k).foldl maxI x.a,meas:=λs=>x.l.length-s.k }] else none }
def V_gr(x:IL):Prop:=AS ZP (A_gr x) Tryz.f124 (AE Tryz.f124) (C_gr.xs x) (AB []) (C_gr.val x) [] [] []
abbrev hd33:=@Exists NI
abbrev hd34:=NI.m
abbrev DU:=@Eq Nat
abbrev GZ:=@List.length Int
abbrev hd38:=IL.l
abbrev AG:=λ(f:Nat->Prop)=>∀(x:Nat),f x
abbrev PY:=λ(p q:Prop)=>p->q
abbrev FC:=@LT.lt Nat instLTNat
abbrev KL:=@gD Int Int.instInhabited
abbrev BO:=@Nat.cast Int instNatCastInt
abbrev Kx:=NI.k
abbrev FF:=@LE.le Nat instLENat
abbrev hd46:=@List.foldl Int Int
abbrev hd47:=maxI
abbrev G5:=@List.take Int
abbrev hd49:=λ(f:NI->Prop)=>∀(x:NI),f x
abbrev KO:=@LE.le Int Int.instLEInt
abbrev OB:=@LT.lt Int Int.instLTInt
abbrev hd53:=IntKind.i64
abbrev hd54:=@HAdd.hAdd Int Int Int (@instHAdd Int Int.instAdd)
abbrev TJ:=@HSub.hSub Nat Nat Nat (@instHSub Nat instSubNat)
abbrev FD a b c d:=HZ a (And b c) d
abbrev MO a b c d e:=PY a (FD b c d e)
abbrev UO a b:=Tx (BO a) b
abbrev Gh a b:=UO a (BO b)
abbrev WU a b c d e f:=MO a (Gh b c) d e f
abbrev AO a b c:=And a (And b c)
abbrev IB a b c d:=AO a b (FC c d)
abbrev Je a b c d e:=IB a b (TJ c d) e
abbrev S7 a b c d e f:=Je a b c d (TJ e f)
abbrev EO a b c d e:=S7 a b c d c e
abbrev GP a b c:=And (FF a b) c
abbrev fR a b c d e f g:=EO a (GP b c d) e f g
abbrev QS a b c d e:=fR a b c d c b e
abbrev L3 a:=GZ (hd38 a)
abbrev AR a b c d e:=AO a b (AO c d e)
abbrev MM a b:=BM (BO a) b
abbrev AME a:=IntKind.wrap hd53 a
abbrev Up a b:=AME (hd54 a b)
abbrev XM a:=Up a 1
abbrev AIO a b:=MM a (XM b)
abbrev AJ a b:=AIO a (BO b)
abbrev AK a:=BM a a
abbrev BP a:=AK (BO a)
abbrev HJ a b c:=PY (FC a b) c
abbrev sL a b c:=HJ a (GZ b) c
abbrev Qc a b:=AK (KL a b)
abbrev CER a b c d:=sL a b (Qc c d)
abbrev EZ a:=AG (λi=>CER i a a i)
abbrev DR a:=DU a a
abbrev IW a:=DR (GZ a)
abbrev FJ a:=KO 0 a
abbrev Cd a b:=And (FJ a) b
abbrev Wr a b:=OB a (BO b)
abbrev BIF a b c:=Cd a (Wr b c)
abbrev CR a b:=BIF (BO a) (BO a) b
abbrev JL a b:=CR a (GZ b)
abbrev EE a b c d:=AO a (FF b c) d
abbrev BX a:=MM a 0
attribute [go_sem] hd33 hd34 DU GZ hd38 AG PY FC KL BO Kx FF hd46 hd47 G5 hd49 KO OB hd53 hd54 TJ FD MO UO Gh WU AO IB Je S7 EO GP fR QS L3 AR MM AME Up XM AIO AJ AK BP HJ sL Qc CER EZ DR IW FJ Cd Wr BIF CR JL EE BX
theorem CXR(x:IL):(V_gr x)=(And (hd33 (λi=>EE (AR (BM (hd34 i) (IL.a x)) (IW (hd38 x)) (EZ (hd38 x)) (BP (L3 x)) (BX (Kx i))) (Kx i) (L3 x) (BM (hd34 i) (hd46 hd47 (IL.a x) (G5 (Kx i) (hd38 x)))))) (hd49 (λi=>WU (GP (Kx i) (L3 x) (BM (hd34 i) (hd46 hd47 (IL.a x) (G5 (Kx i) (hd38 x))))) (Kx i) (L3 x) (JL (Kx i) (hd38 x)) (hd33 (λj=>QS (AR (BM (hd34 j) (hd47 (hd34 i) (KL (hd38 x) (Kx i)))) (IW (hd38 x)) (EZ (hd38 x)) (BP (L3 x)) (AJ (Kx j) (Kx i))) (Kx j) (L3 x) (BM (hd34 j) (hd46 hd47 (IL.a x) (G5 (Kx j) (hd38 x)))) (Kx i))) (BM (grM x) (hd34 i))))):=by kernel_rfl
theorem LG{α:Type}[Inhabited α]{l:List α}{k:Nat}(h:k<l.length):l.take (k+1)=l.take k ++ [gD l k]:=by
 rw[List.take_add_one,List.getElem?_eq_getElem h];simp[gD,List.getD_eq_getElem?_getD,h]
theorem p_gr(x:IL)(h:x.l.length<4611686018427387904):V_gr x:=by
 rw[CXR]<;> dsimp only[go_sem];try simp only[CC,CU]
 refine⟨⟨⟨0,x.a⟩,⟨rfl,rfl⟩,Nat.zero_le _,rfl⟩,λs hs=>⟨λhlt=>⟨by omega,⟨s.k+1,maxI s.m (gD x.l s.k)⟩,⟨rfl,(BF (by omega)).symm⟩,⟨⟨by show s.k+1<=_;omega,?_⟩,?_⟩⟩,λhge=>?_⟩⟩
 ·show maxI s.m (gD x.l s.k)=_
  rw[LG (by omega),List.foldl_append,hs.2];rfl
 ·show x.l.length-(s.k+1)<_;omega
 ·rw[hs.2];unfold grM;rw[List.take_of_length_le (by omega)]
theorem CZD:AH ZP 124 (C_gr.spec d_gr):=PW C_gr A_gr [] [] Tryz.func124 (λ_=>by kernel_rfl) (λ_=>AD) (λx h=>p_gr x (of_decide_eq_true h)) (λ_=>RA rfl rfl) _
def El(n d:Int):Rt:=⟨n.tdiv (Nat.gcd n.natAbs d.natAbs:Nat),d.tdiv (Nat.gcd n.natAbs d.natAbs:Nat)⟩
structure NN where
 a:Nat
 b:Nat
 deriving Inhabited
def BSD(x:I2):Ann:={ ann 26 [(124,C_gr.spec d_gr)] with loops:=λid=>if id=2 then some [{ α:=NN,dflt:=default,T:=λs=>⟨[(0,.int x.a),(1,.int x.b),(4,.bptr 201 0),(5,.int s.a),(6,.int s.b)],[(201,.live (.box [.int 0,.int 0]))]⟩,inv:=λs=>Nat.gcd s.a s.b=Nat.gcd x.a.natAbs x.b.natAbs/\s.a<=2305843009213693952/\s.b<=2305843009213693952,meas:=λs=>s.b,first:=[(201,1000)] }] else none }
def BPG(x:I2):Prop:=AS ZP (BSD x) Tryz.f97 (AE Tryz.f97) (xI2 x) (AB []) (.d (G2 (El x.a x.b))) [] [] []
abbrev hd57:=@HA Int
abbrev hd58:=@HSub.hSub Int Int Int (@instHSub Int Int.instSub)
abbrev Y3:=@Exists NN
abbrev CS:=NN.a
abbrev DV:=NN.b
abbrev hd63:=Int.ofNat
abbrev hd65:=Int.natAbs
abbrev hd66:=λ(f:NN->Prop)=>∀(x:NN),f x
abbrev zA:=False
abbrev hd68:=Int.tmod
abbrev MH:=Rt.n
abbrev lV:=El
abbrev QA:=Rt.d
abbrev Hk a b c d:=AO a (BM b c) d
abbrev bY a b c d e:=Hk a b c (BM d e)
abbrev J4 a b:=AME (Int.tdiv a b)
abbrev Yl a:=BO (CS a)
abbrev U9 a:=PY (BX a) zA
abbrev II a:=(@Ne Int) a 0
abbrev eS a b c d:=DU (Nat.gcd (CS a) (DV b)) (Nat.gcd (hd65 (Ie c)) (hd65 (Vn d)))
abbrev wW a b:=And (AK (Ie a)) b
abbrev cH a b c d:=AR a b c d d
abbrev JQ a:=AK (hd63 a)
abbrev BB:=JQ 0
abbrev Om a:=BO (DV a)
abbrev AI a b:=MM a (BO b)
abbrev yE a:=AK (Vn a)
abbrev RR a:=hd23 a 0
abbrev BD a b c d:=And a (AO b c d)
abbrev JO a b c d e:=BD a b (FF c d) e
abbrev PS a b:=AME (hd58 a b)
abbrev jL a:=Va a a
abbrev UN:=jL aN
abbrev BFU a b c:=BM (KL a b) c
abbrev BLG a b c d e:=sL a b (BFU c d e)
abbrev KC a b c:=BLG a b b a c
abbrev BGE a:=FF a a
abbrev Ea:=BGE 1
abbrev OD a b:=DU (GZ a) b
abbrev mT a:=OD a 1
attribute [go_sem] hd57 hd58 Y3 CS DV hd63 hd65 hd66 zA hd68 MH lV QA Hk bY J4 Yl U9 II eS wW cH JQ BB Om AI yE RR BD JO PS jL UN BFU BLG KC BGE Ea OD mT
theorem CBN(x:I2):(BPG x)=(AO (AR (AK (Ie x)) (mT (hd57 1 (λi=>PS 0 (Ie x)))) Ea (AG (λi=>KC i (hd57 1 (λj=>PS 0 (Ie x))) (PS 0 (Ie x)))) UN) (Y3 (λi=>JO (wW x (cH (yE x) (MM (CS i) (grM (IL.mk (Ie x) (hd57 1 (λj=>PS 0 (Ie x)))))) (MM (DV i) (Vn x)) BB)) (eS i i x x) (CS i) 2305843009213693952 (FF (DV i) 2305843009213693952))) (hd66 (λi=>MO (EE (eS i i x x) (CS i) 2305843009213693952 (FF (DV i) 2305843009213693952)) (RR (Om i)) (U9 (DV i)) (Y3 (λj=>IB (wW x (cH (yE x) (AI (CS j) (DV i)) (MM (DV j) (hd68 (Yl i) (Om i))) BB)) (EE (eS j j x x) (CS j) 2305843009213693952 (FF (DV j) 2305843009213693952)) (DV j) (DV i))) (bY (And (II (Yl i)) (U9 (CS i))) (MH (lV (Ie x) (Vn x))) (J4 (Ie x) (Yl i)) (QA (lV (Ie x) (Vn x))) (J4 (Vn x) (Yl i)))))):=by kernel_rfl
def Pv:=pD dI2 (λx=>.d (G2 (El x.a x.b))) (λx=>[0<x.b/\x.b<=2305843009213693952 /\ -2305843009213693952<=x.a/\x.a<=2305843009213693952])
theorem CIQ{n:Int}(h1:-2305843009213693952<=n)(h2:n<=2305843009213693952):grM ⟨n,HA 1 λ_=>IntKind.i64.wrap (-n)⟩=n.natAbs:=by
 rw[HL (by omega) (by omega)]
 show maxI n (-n)=_
 unfold maxI;split<;>omega
theorem AQX:AH ZP 97 Pv:=OG xI2 hI2 λx h=>WP (A:=BSD x) (ren:=[]) (fz:=[]) Tryz.func97 (by kernel_rfl) (AA CZD AD) (by
 show BPG x;rw[CBN]<;> dsimp only[go_sem];try simp only[CC,CU]
 obtain⟨h1,h2,h3,h4⟩:0<x.b/\x.b<=2305843009213693952 /\ -2305843009213693952<=x.a/\x.a<=2305843009213693952:=h
 refine⟨⟨by omega,λj hj=>DC _ _ _ hj⟩,⟨⟨x.a.natAbs,x.b.natAbs⟩,⟨(CIQ h3 h4).symm,by show (x.b.natAbs:Int)=_;omega⟩,rfl,by show x.a.natAbs<=_;omega,by show x.b.natAbs<=_;omega⟩,λs hs=>⟨λhb=>?_,λhb=>?_⟩⟩
 ·have hb:s.b≠0:=by simpa using hb
  refine⟨by omega,⟨s.b,s.a % s.b⟩,⟨rfl,?_⟩,⟨?_,hs.2.2,?_⟩,Nat.mod_lt _ (by omega)⟩
  ·exact (Int.ofNat_tmod s.a s.b)
  ·show Nat.gcd s.b (s.a % s.b)=_
   rw[<-hs.1,Nat.gcd_comm s.b,<-Nat.gcd_rec,Nat.gcd_comm]
  ·exact Nat.le_trans (Nat.le_of_lt (Nat.mod_lt _ (by omega))) hs.2.2
 ·have hb:s.b=0:=by simpa using hb
  have hg:s.a=Nat.gcd x.a.natAbs x.b.natAbs:=by rw[<-hs.1,hb,Nat.gcd_zero_right]
  have hp:0<Nat.gcd x.a.natAbs x.b.natAbs:=Nat.gcd_pos_of_pos_right _ (by omega)
  have ha:∀z:Int,(z.tdiv (s.a:Int)).natAbs<=z.natAbs:=λz=>by rw[Int.natAbs_tdiv];exact Nat.div_le_self _ _
  have e1:=ha x.a
  have e2:=ha x.b
  refine⟨by omega,?_,?_⟩
  ·rw[HL (by omega) (by omega)];unfold El;rw[<-hg]
  ·rw[HL (by omega) (by omega)];unfold El;rw[<-hg])
theorem U4{n d:Int}(h:0<d):0<(El n d).d/\(El n d).d<=d:=by
 have hd:((Nat.gcd n.natAbs d.natAbs:Nat):Int)∣d:=Int.ofNat_dvd_left.2 (Nat.gcd_dvd_right _ _)
 have hp:0<Nat.gcd n.natAbs d.natAbs:=Nat.gcd_pos_of_pos_right _ (by omega)
 obtain⟨c,hc⟩:=hd
 have hc0:0<c:=by
  rcases Int.lt_or_le 0 c with h1 | h1
  ·exact h1
  ·have:=Int.mul_nonneg (show 0<=((Nat.gcd n.natAbs d.natAbs:Nat):Int) by omega) (show 0 <= -c by omega)
   rw[Int.mul_neg,<-hc] at this;omega
 have e:(El n d).d=c:=by
  show d.tdiv _=c
  generalize Nat.gcd n.natAbs d.natAbs=q at *
  rw[hc,Int.mul_tdiv_cancel_left _ (by omega)]
 rw[e]
 refine⟨hc0,?_⟩
 have:=Int.mul_le_mul_of_nonneg_right (show (1:Int)<=((Nat.gcd n.natAbs d.natAbs:Nat):Int) by omega) (show 0<=c by omega)
 rw[<-hc] at this;omega
theorem BNC{n d:Int}:(El n d).n.natAbs<=n.natAbs:=by
 show (n.tdiv _).natAbs<=_
 rw[Int.natAbs_tdiv];exact Nat.div_le_self _ _
theorem jU{n d:Int}(h:0<d):(El n d).n*d=n*(El n d).d:=by
 have hd:((Nat.gcd n.natAbs d.natAbs:Nat):Int)∣d:=Int.ofNat_dvd_left.2 (Nat.gcd_dvd_right _ _)
 have hn:((Nat.gcd n.natAbs d.natAbs:Nat):Int)∣n:=Int.ofNat_dvd_left.2 (Nat.gcd_dvd_left _ _)
 have hp:0<Nat.gcd n.natAbs d.natAbs:=Nat.gcd_pos_of_pos_right _ (by omega)
 show n.tdiv _*d=n*d.tdiv _
 generalize Nat.gcd n.natAbs d.natAbs=q at *
 obtain⟨c,rfl⟩:=hd
 obtain⟨e,rfl⟩:=hn
 rw[Int.mul_tdiv_cancel_left _ (by omega),Int.mul_tdiv_cancel_left _ (by omega)]
 rw[Int.mul_comm (q:Int) e,Int.mul_assoc]
def ATK(x:Bnd):Prop:=AS ZP (ann 16 [(81,N8)]) Tryz.f92 (AE Tryz.f92) (xR2 x) (AB []) (.int (Ib (wr (x.lo.n*x.hi.d)) (wr (x.hi.n*x.lo.d)))) [] [] []
abbrev hd75:=@HMul.hMul Int Int Int (@instHMul Int Int.instMul)
abbrev hd76:=Bnd.lo
abbrev hd77:=Bnd.hi
abbrev SI a b:=AME (hd75 a b)
abbrev OO a:=QA (hd76 a)
abbrev BKN a b:=SI a (OO b)
abbrev NS a:=MH (hd77 a)
abbrev AWS a:=BKN (NS a) a
abbrev NT a:=QA (hd77 a)
abbrev MV a:=MH (hd76 a)
abbrev AYE a:=SI (MV a) (NT a)
abbrev Zy a b:=wr (hd75 a b)
attribute [go_sem] hd75 hd76 hd77 SI OO BKN NS AWS NT MV AYE Zy
theorem BLJ(x:Bnd):(ATK x)=(BM (hd30 (Zy (MV x) (NT x)) (Zy (NS x) (OO x))) (hd30 (AYE x) (AWS x))):=by kernel_rfl
def ADT:=pD dR2 λx=>.int (Ib (wr (x.lo.n*x.hi.d)) (wr (x.hi.n*x.lo.d)))
theorem mJ:AH ZP 92 ADT:=OG xR2 hR2 λg _=>WP (A:=ann 16 [(81,N8)]) (ren:=[]) (fz:=[]) Tryz.func92 (by kernel_rfl) (AA AJK AD) (by
 show ATK g;rw[BLJ]<;> dsimp only[go_sem];try rfl)
def Ct(x:Ln)(s:Int):Rt:=El (x.a1*(x.b0-x.a0)+(x.b1-x.a1)*(s-x.a0)) (x.b0-x.a0)
def MI(x:Ln):Prop:=0<=x.a0/\x.a0<x.b0/\x.b0<=2000/\0<=x.a1/\x.a1<=x.b1/\x.b1<=200000
def COK(a:LnI):Prop:=AS ZP (ann 34 [(97,Pv)]) Tryz.f59 (AE Tryz.f59) (xLI a) (AB []) (.d (G2 (Ct a.x a.s))) [] [] []
abbrev Zk:=LnI.x
abbrev Ig:=LnI.s
abbrev pT:=Ct
abbrev Ka a:=MG (Zk a)
abbrev eA a:=RU (Zk a)
abbrev pM a b:=PS (eA a) (Ka b)
abbrev AWO a b c:=SI a (PS b c)
abbrev yQ a b c d:=Up a (AWO b c d)
abbrev AGO a b c d e f:=yQ (AWO a b c) d e f
abbrev Pj a:=QT (Zk a)
abbrev rR a:=SJ (Zk a)
abbrev Ow a b:=pT (Zk a) (Ig b)
abbrev AMZ a b c d e:=BD a b (KO c d) e
abbrev S4 a b c d e f:=AMZ a (KO b c) d e f
abbrev Ze a:=KO a 2305843009213693952
abbrev Q6 a:=OB 0 a
attribute [go_sem] Zk Ig pT Ka eA pM AWO yQ AGO Pj rR Ow AMZ S4 Ze Q6
theorem CUM(a:LnI):(COK a)=(bY (S4 (Q6 (pM a a)) (pM a a) 2305843009213693952 (-2305843009213693952) (AGO (Pj a) (eA a) (Ka a) (PS (rR a) (Pj a)) (Ig a) (Ka a)) (Ze (AGO (Pj a) (eA a) (Ka a) (PS (rR a) (Pj a)) (Ig a) (Ka a)))) (MH (Ow a a)) (MH (lV (AGO (Pj a) (eA a) (Ka a) (PS (rR a) (Pj a)) (Ig a) (Ka a)) (pM a a))) (QA (Ow a a)) (QA (lV (AGO (Pj a) (eA a) (Ka a) (PS (rR a) (Pj a)) (Ig a) (Ka a)) (pM a a)))):=by kernel_rfl
def jI:=pD dLI (λa=>.d (G2 (Ct a.x a.s))) (λa=>[MI a.x,0<=a.s/\a.s<=2000])
theorem CKZ{x:Ln}{t:Int}(h:MI x)(h2:0<=t/\t<=2000):(0<=x.a1*(x.b0-x.a0)/\x.a1*(x.b0-x.a0)<=400000000) /\ -400000000<=(x.b1-x.a1)*(t-x.a0)/\(x.b1-x.a1)*(t-x.a0)<=400000000:=by
 obtain⟨h3,h4,h5,h6,h7,h8⟩:=h
 exact⟨mulb (A:=200000) (B:=2000) (by omega) (by omega) (by omega) (by omega),CZB (A:=200000) (B:=2000) (by omega) (by omega) (by omega) (by omega)⟩
theorem BLK:AH ZP 59 jI:=OG xLI hLI λa h=>WP (A:=ann 34 [(97,Pv)]) (ren:=[]) (fz:=[]) Tryz.func59 (by kernel_rfl) (AA AQX AD) (by
 show COK a;rw[CUM]<;> dsimp only[go_sem];try simp only[CC,CU]
 have hb:=CKZ h.1 h.2
 obtain⟨⟨h3,h4,h5,h6,h7,h8⟩,h9,h10⟩:=h
 rw[HL (n:=a.x.b0-a.x.a0) (by omega) (by omega),HL (n:=a.x.b1-a.x.a1) (by omega) (by omega),HL (n:=a.s-a.x.a0) (by omega) (by omega),HL (n:=a.x.a1*(a.x.b0-a.x.a0)) (by omega) (by omega),HL (n:=(a.x.b1-a.x.a1)*(a.s-a.x.a0)) (by omega) (by omega),HL (n:=a.x.a1*(a.x.b0-a.x.a0)+(a.x.b1-a.x.a1)*(a.s-a.x.a0)) (by omega) (by omega)]
 exact⟨⟨by omega,by omega,by omega,by omega⟩,rfl,rfl⟩)
theorem AFA{x:Ln}{t:Int}(h:MI x):0<(Ct x t).d/\(Ct x t).d<=2000:=by
 have:=U4 (n:=x.a1*(x.b0-x.a0)+(x.b1-x.a1)*(t-x.a0)) (d:=x.b0-x.a0) (by have:=h.2.1;omega)
 refine⟨this.1,?_⟩
 have h1:=h.1
 have h3:=h.2.2.1
 have:=this.2
 show (El _ _).d<=_
 omega
def Cf(r:Rt):Rt:=if r.n<0 then⟨0,1⟩ else if 200000*r.d<r.n then⟨200000,1⟩ else r
def ASR(r:Rt):Prop:=AS ZP (ann 17 []) Tryz.f162 (AE Tryz.f162) (xR1 r) (AB []) (.d (G2 (Cf r))) [] [] []
abbrev hd81:=Cf
abbrev BIG a b:=BM (QA a) b
abbrev Fs a b:=BIG a (QA b)
abbrev vG a b:=BM (MH a) b
abbrev Gc a b:=vG a (MH b)
abbrev fN a:=BIG a 1
abbrev oP a:=MH (hd81 a)
abbrev cV a:=Tx a 0
attribute [go_sem] hd81 BIG Fs vG Gc fN oP cV
theorem BLV(r:Rt):(ASR r)=(FD (cV (MH r)) (CL (oP r)) (fN (hd81 r)) (FD (Oa (MH r) (SI 200000 (QA r))) (vG (hd81 r) 200000) (fN (hd81 r)) (And (Gc (hd81 r) r) (Fs (hd81 r) r)))):=by kernel_rfl
def AEF:=pD dR1 (λr=>.d (G2 (Cf r))) (λr=>[0<r.d/\r.d<=4000000])
theorem BIE:AH ZP 162 AEF:=OG xR1 hR1 λr h=>WP (A:=ann 17 []) (ren:=[]) (fz:=[]) Tryz.func162 (by kernel_rfl) AD (by
 show ASR r;rw[BLV]<;> dsimp only[go_sem];try simp only[CC,CU]
 obtain⟨h1,h2⟩:0<r.d/\r.d<=4000000:=h
 rw[HL (by omega) (by omega)]
 unfold Cf
 refine⟨λh3=>by simp[h3],λh3=>⟨λh4=>?_,λh4=>?_⟩⟩
 ·rw[if_neg h3,if_pos (by omega)];exact⟨rfl,rfl⟩
 ·rw[if_neg h3,if_neg (by omega)];exact⟨rfl,rfl⟩)
def JF(x:Ln)(s:Int):Rt:=Cf (Ct x s)
def BRP(a:LnI):Prop:=AS ZP (ann 9 [(59,jI),(162,AEF)]) Tryz.f161 (AE Tryz.f161) (xLI a) (AB []) (.d (G2 (JF a.x a.s))) [] [] []
abbrev hd82:=JF
abbrev P4 a:=QA (hd81 a)
abbrev L6 a:=Q6 (QA a)
abbrev VF a:=KO a 2000
abbrev UW a:=Cd a (VF a)
abbrev xB a b c d e f:=AR a b c (KO d e) f
abbrev qH a:=KO a 200000
abbrev BHU a b c d:=xB a b (FJ c) c d (qH d)
abbrev vB a b c d:=BHU a (VF b) c d
abbrev AFT a b c d:=Cd a (vB (OB a b) b c d)
abbrev HX a:=AFT (MG a) (RU a) (QT a) (SJ a)
attribute [go_sem] hd82 P4 L6 VF UW xB qH BHU vB AFT HX
theorem BWH(a:LnI):(BRP a)=(bY (BD (HX (Zk a)) (UW (Ig a)) (L6 (Ow a a)) (KO (QA (Ow a a)) 4000000)) (MH (hd82 (Zk a) (Ig a))) (oP (Ow a a)) (QA (hd82 (Zk a) (Ig a))) (P4 (Ow a a))):=by kernel_rfl
def AJO:=pD dLI (λa=>.d (G2 (JF a.x a.s))) (λa=>[MI a.x,0<=a.s/\a.s<=2000])
theorem BGA:AH ZP 161 AJO:=OG xLI hLI λa h=>WP (A:=ann 9 [(59,jI),(162,AEF)]) (ren:=[]) (fz:=[]) Tryz.func161 (by kernel_rfl) (AA BLK (AA BIE AD)) (by
 show BRP a;rw[BWH]<;> dsimp only[go_sem];try simp only[CC,CU]
 have:=AFA (t:=a.s) h.1
 exact⟨⟨h.1,h.2,this.1,by omega⟩,rfl,rfl⟩)
def QB(p:Pt):Ln:=if p.st=2000 then⟨p.st-1,p.fl,p.st,p.fl⟩ else⟨p.st,p.fl,p.st+1,p.fl⟩
def BRK(p:Pt):Prop:=AS ZP (ann 22 []) Tryz.f107 (AE Tryz.f107) (xP1 p) (AB []) (.d (eLn (QB p))) [] [] []
abbrev VS:=@BEq.beq Int (@instBEqOfDecidableEq Int Int.instDecidableEq)
abbrev hd84:=QB
abbrev Lm a b c d e f:=bY (BM a b) c d e f
abbrev ARL a b c d e f:=Lm a b (RU c) d e f
abbrev AEX a b c d e:=ARL (QT a) b a c d e
abbrev dK a b:=BM (MG a) b
abbrev UH a:=PS a 1
attribute [go_sem] VS hd84 Lm ARL AEX dK UH
theorem CGV(p:Pt):(BRK p)=(FD (VS (hd14 p) 2000) (dK (hd84 p) (UH (hd14 p))) (AEX (hd84 p) (rI p) (hd14 p) (SJ (hd84 p)) (rI p)) (And (dK (hd84 p) (hd14 p)) (AEX (hd84 p) (rI p) (XM (hd14 p)) (SJ (hd84 p)) (rI p)))):=by kernel_rfl
def F7:=pD dP1 (λp=>.d (eLn (QB p))) (λp=>[0<=p.st/\p.st<=2000])
theorem Zv:AH ZP 107 F7:=OG xP1 hP1 λp h=>WP (A:=ann 22 []) (ren:=[]) (fz:=[]) Tryz.func107 (by kernel_rfl) AD (by
 show BRK p;rw[CGV]<;> dsimp only[go_sem]
 obtain⟨h1,h2⟩:0<=p.st/\p.st<=2000:=h
 rw[HL (by omega) (by omega),HL (by omega) (by omega),BDF]
 unfold QB
 by_cases h:p.st=2000<;>simp[h])
def NJ(x:Ln)(g:Gau):Bool:=decide (g.lo*(Ct x g.st).d<=(Ct x g.st).n)&&decide ((Ct x g.st).n<=g.hi*(Ct x g.st).d)
def IT(g:Gau):Prop:=0<=g.st/\g.st<=2000/\0<=g.lo/\g.lo<=g.hi/\g.hi<=200000
def BDZ(a:LnG):Prop:=AS ZP (ann 30 [(59,jI)]) Tryz.f65 (AE Tryz.f65) (xLG a) (AB []) (.bool (NJ a.x a.g)) [] [] []
abbrev hd85:=LnG.x
abbrev hd86:=LnG.g
abbrev AOC a:=VF (Wk a)
abbrev AQJ a:=FJ (Wk a)
attribute [go_sem] hd85 hd86 AOC AQJ
theorem BUY(a:LnG):(BDZ a)=(And (AO (HX (hd85 a)) (AQJ (hd86 a)) (AOC (hd86 a))) (Mn (NJ (hd85 a) (hd86 a)) (hd6 (MH (pT (hd85 a) (Wk (hd86 a)))) (SI (tE (hd86 a)) (QA (pT (hd85 a) (Wk (hd86 a)))))) (hd7 (MH (pT (hd85 a) (Wk (hd86 a)))) (SI (Qo (hd86 a)) (QA (pT (hd85 a) (Wk (hd86 a)))))))):=by kernel_rfl
def ANT:=pD dLG (λa=>.bool (NJ a.x a.g)) (λa=>[MI a.x,IT a.g])
theorem ASB:AH ZP 65 ANT:=OG xLG hLG λa h=>WP (A:=ann 30 [(59,jI)]) (ren:=[]) (fz:=[]) Tryz.func65 (by kernel_rfl) (AA BLK AD) (by
 show BDZ a;rw[BUY]<;> dsimp only[go_sem];try simp only[CC,CU]
 obtain⟨h1,h2,h3,h4,h5,h6⟩:MI a.x/\IT a.g:=h
 have hd:=AFA (t:=a.g.st) h1
 have b1:=mulb (A:=200000) (B:=2000) h4 (by omega) (show 0<=(Ct a.x a.g.st).d by omega) hd.2
 have b2:=mulb (A:=200000) (B:=2000) (show 0<=a.g.hi by omega) (by omega) (show 0<=(Ct a.x a.g.st).d by omega) hd.2
 rw[HL (by omega) (by omega),HL (by omega) (by omega)]
 refine⟨⟨h1,h2,h3⟩,?_⟩
 unfold NJ
 cases decide (a.g.lo*(Ct a.x a.g.st).d<=(Ct a.x a.g.st).n)<;>simp_all)
end Go.Bal
