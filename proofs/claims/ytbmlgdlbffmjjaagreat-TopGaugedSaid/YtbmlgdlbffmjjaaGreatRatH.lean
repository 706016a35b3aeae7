/- Package rating: the least and the greatest flow at a stage. -/
import Derived.Test.YtbmlgdlbffmjjaaGreatRatG
set_option linter.unusedVariables false
set_option linter.unusedSimpArgs false
namespace Go.Bal
open Go Go.Sym Go.Proofs
def tO(p q:Rt):Int:=kW (wr (p.n*q.d)) (wr (q.n*p.d))
def ARP:=pD dR2 λx=>.bool (decide (tO x.lo x.hi<0))
def AUS:=pD dR2 λx=>.bool (decide (tO x.lo x.hi>0))
def A_lm:Ann:=ann 9 [(R9,ANP)]
def BIK(a:Bnd):Prop:=AX Try.prog A_lm AQY (AF AQY) (xR2 a) (AC []) (.bool (decide (tO a.lo a.hi<0))) [] [] []
theorem BNT(a:Bnd):(BIK a)=(LI (Pj (tO (nI a) (mA a))) (Pj (lO (Xo (OJ a) (NB a)) (Xo (OG a) (NW a))))):=by kernel_rfl
def BHQ(a:Bnd):Prop:=AX Try.prog A_lm AOZ (AF AOZ) (xR2 a) (AC []) (.bool (decide (tO a.lo a.hi>0))) [] [] []
theorem BPO(a:Bnd):(BHQ a)=(LI (TR (tO (nI a) (mA a))) (TR (lO (Xo (OJ a) (NB a)) (Xo (OG a) (NW a))))):=by kernel_rfl
theorem BTW:AH Try.prog Ex ARP:=MC xR2 hR2 λg _=>Dy (A:=A_lm) (ren:=[]) (fz:=[]) BXM (by kernel_rfl) (AA ALK AD) (by
 show BIK g;rw[BNT]<;> delta LI NX lO Gn Dj J9 nI mA Xo NB NW OG OJ Pj;rfl)
theorem BYH:AH Try.prog Ev AUS:=MC xR2 hR2 λg _=>Dy (A:=A_lm) (ren:=[]) (fz:=[]) BOS (by kernel_rfl) (AA ALK AD) (by
 show BHQ g;rw[BPO]<;> delta LI lO aD Gn Dj J9 nI mA Xo NB NW OG OJ TR;rfl)
def CGX:AVal:=.agg [.fn (.func Ex) [] []]
def CGW:AVal:=.agg [.fn (.func Ev) [] []]
def d0:List AVal->Heap->Option (One×List (Nat×Nat)×List Nat)
 |[],_=>some (default,[],[])
 |_,_=>none
def C_less:Ctr:={ α:=One,xs:=λ_=>[],L:=λ_=>[],val:=λ_=>CGX,keep:=λ_=>[] }
def C_more:Ctr:={ α:=One,xs:=λ_=>[],L:=λ_=>[],val:=λ_=>CGW,keep:=λ_=>[] }
def BOM(_x:One):Prop:=AX Try.prog (ann 2 []) BAY (AF BAY) [] (AC []) CGX [] [] []
theorem CFL(_x:One):(BOM _x)=(FT):=by kernel_rfl
def BVL(_x:One):Prop:=AX Try.prog (ann 2 []) BEO (AF BEO) [] (AC []) CGW [] [] []
theorem CBG(_x:One):(BVL _x)=(FT):=by kernel_rfl
def dAL:List AVal->Option LnI
 |[.d (.iface 57 (.agg [.v (.int .i64 a),.v (.int .i64 b),.v (.int .i64 c),.v (.int .i64 d)])),.d (.v (.int .i64 s))]=>some ⟨⟨a,b,c,d⟩,s⟩
 |_=>none
def xAL(a:LnI):List AVal:=[.d (.iface 57 (eLn a.x)),.int a.s]
def BEL:=pD dAL (λa=>.d (eRt (LZ a.x a.s))) (λa=>[PO a.x,0<=a.s/\a.s<=2000])
def BYC(a:LnI):Prop:=AX Try.prog (ann 8 [(ADH,ATU)]) ATB (AF ATB) (xAL a) (AC []) (.d (eRt (LZ a.x a.s))) [] [] []
theorem CEM(a:LnI):(BYC a)=(HZ (Br (LU (bY a)) (iV a) (HI (iV a))) (Gn (LZ (bY a) (iV a))) (Dj (LZ (bY a) (iV a)))):=by kernel_rfl
theorem CCS:AH Try.prog AZS (C_less.spec d0):=PU C_less (λ_=>ann 2 []) [] [] CBI (λ_=>by kernel_rfl) (λ_=>AD) (λ(x:One) _=>by
 show BOM x;rw[CFL]<;> delta FT;trivial) (λ_=>RU rfl rfl) _
theorem CBR:AH Try.prog BCM (C_more.spec d0):=PU C_more (λ_=>ann 2 []) [] [] CBM (λ_=>by kernel_rfl) (λ_=>AD) (λ(x:One) _=>by
 show BVL x;rw[CBG]<;> delta FT;trivial) (λ_=>RU rfl rfl) _
theorem hAL(xs:List AVal)(a:LnI)(h:dAL xs=some a):xs=xAL a:=by
 unfold dAL at h;split at h<;>cases h;rfl
theorem AOY:AH Try.prog ADK BEL:=MC xAL hAL λa h=>Dy (A:=ann 8 [(ADH,ATU)]) (ren:=[]) (fz:=[]) BPE (by kernel_rfl) (AA BRW AD) (by
 show BYC a;rw[CEM]<;> delta LL HV GZ JJ AK DC ER Gn Dj bY iV AG AI AJ CM HZ BG EB HI RJ UA US KM PK LU Br;exact⟨⟨h.1,h.2⟩,rfl,rfl⟩)
def Kg(lt:Rt->Rt->Bool)(t:Int)(b x:Ln):Ln:=bif lt (LZ x t) (LZ b t) then x else b
def nG(lt:Rt->Rt->Bool)(t:Int)(l:List Ln)(i:Nat):Ln:=(l.take i).foldl (Kg lt t) (gD l 0)
def eF(lt:Rt->Rt->Bool)(t:Int)(l:List Ln):Ln:=l.foldl (Kg lt t) (gD l 0)
def ltR(p q:Rt):Bool:=decide (tO p q<0)
def gtR(p q:Rt):Bool:=decide (tO p q>0)
structure BkT where
 w:Bk
 st:Int
def kB(a:BkT):Int:=Vx a.w.b a.st
def lB(a:BkT):List Ln:=Nn (aE a.w (kB a)) a.st
def dBkT(n:FuncId):List AVal->Heap->Option (BkT×List (Nat×Nat)×List Nat)
 |[.bptr id _,.d t,.agg [.fn (.func g) [] []]],H=>if g=n then match BIY H id with
  |some (w,q)=>some (⟨w,LR t⟩,[(100,id),(101,q)],[])
  |none=>none else none
 |_,_=>none
def bvL(x:Ln)(b:Bool):AVal:=.tup [.d (eLn x),.bool b]
def be6(lt:Rt->Rt->Bool)(n:FuncId)(a:BkT):Shape:={ α:=Nat,dflt:=0,T:=λi=>⟨[(1,.int a.st),(5,.bptr 1000 0),(6,.bptr 1016 0),(9,.bptr 5048 0),(29,.d (K4 (lB a))),(30,.int (lB a).length),(31,.int i)],bkK (O0 a.w (kB a)) ++ [(1000,.live (.box [.fn (.func n) [] []])),(1016,zLn),(5048,.live (.box [.int (nG lt a.st (lB a) i).a0,.int (nG lt a.st (lB a) i).a1,.int (nG lt a.st (lB a) i).b0,.int (nG lt a.st (lB a) i).b1]))]⟩,inv:=λi=>i<=(lB a).length,meas:=λi=>(lB a).length-i }
def Qr(lt:Rt->Rt->Bool)(n:FuncId):Ctr:={ ro:=[100],α:=BkT,xs:=λa=>[.bptr 100 0,.int a.st,.agg [.fn (.func n) [] []]],L:=λa=>bkL a.w,val:=λa=>bvL (bif decide ((lB a).length=0) then default else eF lt a.st (lB a)) (decide ((lB a).length≠0)),keep:=λa=>bkK (O0 a.w (kB a)),pre:=λa=>[gI a.w.g a.w.b/\0<=a.st/\a.st<=2000] }
def ATP(lt:Rt->Rt->Bool)(n:FuncId)(f:Sym.Spec)(a:BkT):Ann:={ ann 49 [(AJI,C_part.spec dIX),(ASP,C_lns.spec dBkS),(ADK,BEL),(n,f)] with E:=[100,101],loops:=λid=>if id=6 then some [be6 lt n a] else none }
def BFH(a:BkT):Prop:=AX Try.prog (ATP ltR Ex ARP a) ALE (AF ALE) ((Qr ltR Ex).xs a) (AC ((Qr ltR Ex).L a)) ((Qr ltR Ex).val a) ((Qr ltR Ex).keep a) [] []
abbrev IS:=BkT.w
abbrev Rx:=BkT.st
abbrev gO a b:=O0 a (kB b)
abbrev CX a:=gO (IS a) a
abbrev UU a b c:=IT (CX a) b c
abbrev OH a b:=RQ (CX a) b
abbrev nK a:=Ga (CX a)
abbrev oC a:=eI (CX a)
abbrev El a:=Fc (CX a)
abbrev pG a:=EG (El a)
abbrev pI a:=HS (El a)
abbrev pO a:=yR (CX a)
abbrev KO a:=HT (lB a)
abbrev Sg a:=(λ(x0 x1:Nat)=>decide (x0≠x1)) (KO a) 0
abbrev AGN a b c:=nG a (Rx b) (lB b) c
abbrev SH a b:=AGN ltR a b
abbrev X0 a b c:=(@cond Ln) (XJ (KO a)) (@default Ln instInhabitedLn) (eF b (Rx c) (lB a))
abbrev Nx a b:=X0 a ltR b
abbrev fH a b:=NZ a (KO b)
abbrev H9 a b c:=yN a b b c
abbrev Ji a:=AJ (Rx a)
abbrev Ze a b:=LZ a (Rx b)
abbrev eH a:=HI (Rx a)
abbrev cV a:=BG (Rx a)
abbrev fV:=MW 0
abbrev dZ a:=Fc (IS a)
abbrev VV a:=EL (dZ a)
abbrev zA a b:=Vx (VV a) (Rx b)
abbrev M0 a b:=Dc (IS a) b
abbrev ANX a b c:=E4 (IS a) (λi=>M0 b i) (VV a) c c
abbrev ZT a:=ANX a a (IS a)
abbrev YY a:=zK (BkS.mk (ZT a) (BH (zA a a)) (Rx a)) (Rx a)
abbrev FZ a:=O0 (ZT a) (BH (zA a a))
abbrev Jl a b:=BQ a (dZ b)
abbrev Ix a b:=BK a (dZ b)
abbrev Ek a b:=JY (M0 a b)
abbrev Ec a b:=LV (M0 a b)
abbrev Dn a b:=KA (M0 a b)
abbrev fG a:=HT (YY a)
abbrev lH a:=FI (VV a)
abbrev XR a:=gQ (IS a) (λi=>M0 a i)
abbrev Ik a b:=BQ a (Fc b)
abbrev Jm a b:=BK a (Fc b)
attribute [go_sem] IS Rx gO CX UU OH nK oC El pG pI pO KO Sg AGN SH X0 Nx fH H9 Ji Ze eH cV fV dZ VV zA M0 ANX ZT YY FZ Jl Ix Ek Ec Dn fG lH XR Ik Jm
theorem BZO(a:BkT):(BFH a)=(GO (AI (Ix (VV a) a) (Jl (VV a) a) (Ji a) (Dp (lH a) 4611686018427387904 (Ft ER (VV a))) (AS (EJ (zA a a)) (Ji a) (Ha (XR a) (IS a)) (AE (λi=>DV i (XR a) (Dn a i) (Ec a i) (Ek a i))) (Ix (VV a) a) (Jl (VV a) a) EO (eI (IS a)) (AS (Ga (IS a)) (DJ (λi=>QA (RQ (ZT a) i) (IS a) i (λj=>MG j (RQ (ZT a) i) (QO (IT (ZT a) i j) (IS a) i j) (IT (ZT a) i j) (IT (IS a) i j) (GF (ZT a) i j) (GF (IS a) i j) (FY (ZT a) i j) (FY (IS a) i j)))) (OP (IS a) (FZ a)) (AE (λi=>KV i (IS a) (Dn a i) (NE (FZ a) i) (Ec a i) (NH (FZ a) i) (Ek a i) (NV (FZ a) i))) (Jm (dZ a) (FZ a)) (Ik (dZ a) (FZ a)) (AI (Qu (XR a)) (TA (λi=>QV i (XR a) i i i i)) (Me (lH a)) (Ft ER (VV a)) (DJ (λi=>TO (Og i (VV a)) (Ej i) (HI i)))) (cV a) (eH a)))) (fA (fG a)) (OR (UG (Nx a a) 0) (HV (Nx a a)) 0 (GZ (Nx a a)) 0 (CQ (JJ (Nx a a))) (WX (Di (Sg a)) (OP (CX a) (IS a)) (λi=>KV i (CX a) (NE (CX a) i) (Dn a i) (NH (CX a) i) (Ec a i) (NV (CX a) i) (Ek a i)) (Ix (El a) a) (Jl (El a) a) (DJ (λi=>Ig (CX a) i (Df (FZ a) i))) (DJ (λi=>YM (CX a) i (FZ a) i)) (λi=>QA (OH a i) (FZ a) i (λj=>MG j (OH a i) (QO (UU a i j) (FZ a) i j) (UU a i j) (IT (FZ a) i j) (GF (CX a) i j) (GF (FZ a) i j) (FY (CX a) i j) (FY (FZ a) i j))))) (WV (IC (fG a)) (CG (λi=>And (FQ (Ji a) (AN (KO a) (fG a)) (λj=>FH j (KO a) (NS (lB a) j (YY a)) (EU (lB a) j) (EU (YY a) j) (EQ (lB a) j) (EQ (YY a) j) (EP (lB a) j) (EP (YY a) j)) (BC (KO a) (fG a)) (RL (BD i) (OP (CX a) (IS a)) (λj=>KV j (CX a) (NE (CX a) j) (Dn a j) (NH (CX a) j) (Ec a j) (NV (CX a) j) (Ek a j)) (Ix (El a) a) (Jl (El a) a) (DJ (λj=>Ig (CX a) j (Df (FZ a) j))) (DJ (λj=>YM (CX a) j (FZ a) j)) (H9 (DJ (λj=>QA (OH a j) (FZ a) j (λk=>MG k (OH a j) (QO (UU a j k) (FZ a) j k) (UU a j k) (IT (FZ a) j k) (GF (CX a) j k) (GF (FZ a) j k) (FY (CX a) j k) (FY (FZ a) j k)))) AL (FE AL (Ut (SH a i) (YY a) fV) (HV (SH a i)) (EU (YY a) fV) (kZ (SH a i) (EQ (YY a) fV)) (cF (SH a i) (EP (YY a) fV)))))) (fH i a))) (λi=>MU (fH i a) i (KO a) (AG (BE i (KO a)) (AI (PK (LH (lB a) i) (EQ (lB a) i) (EU (lB a) i) (EP (lB a) i)) (WS (Rx a)) (LU (SH a i)) (cV a) (eH a)) (EZ (Pj (tO (Ze (LH (lB a) i) a) (Ze (SH a i) a))) (CG (λj=>FB (FQ (Ji a) (AR (KO a)) (λk=>Gg k (KO a) (lB a)) (EJ (KO a)) (RL (AU j i) (pO a) (λk=>Wz k (CX a) (Dc (CX a) k)) (pI a) (pG a) (oC a) (nK a) (H9 (DJ (λk=>Ce (OH a k) (λl=>Pv l (OH a k) (UU a k l)))) AL (FE AL (Ut (SH a j) (lB a) i) (HV (SH a j)) (EU (lB a) i) (kZ (SH a j) (EQ (lB a) i)) (cF (SH a j) (EP (lB a) i)))))) (fH j a) (KO a) j i)) (CG (λj=>FB (FQ (Ji a) (AR (KO a)) (λk=>Gg k (KO a) (lB a)) (EJ (KO a)) (RL (AU j i) (pO a) (λk=>Wz k (CX a) (Dc (CX a) k)) (pI a) (pG a) (oC a) (nK a) (H9 (DJ (λk=>Ce (OH a k) (λl=>Pv l (OH a k) (UU a k l)))) AL (FE AL (HQ (SH a j) (SH a i)) (HV (SH a j)) (HV (SH a i)) (Mb (SH a j) (SH a i)) (Dw (SH a j) (SH a i)))))) (fH j a) (KO a) j i)))) (OR (HQ (Nx a a) (SH a i)) (HV (Nx a a)) (HV (SH a i)) (GZ (Nx a a)) (GZ (SH a i)) (Dw (Nx a a) (SH a i)) (WX (GI (Sg a)) (pO a) (λj=>Wz j (CX a) (Dc (CX a) j)) (pI a) (pG a) (oC a) (nK a) (λj=>Ce (OH a j) (λk=>Pv k (OH a j) (UU a j k)))))))):=by kernel_rfl
def BGD(a:BkT):Prop:=AX Try.prog (ATP gtR Ev AUS a) ALE (AF ALE) ((Qr gtR Ev).xs a) (AC ((Qr gtR Ev).L a)) ((Qr gtR Ev).val a) ((Qr gtR Ev).keep a) [] []
abbrev SF a b:=AGN gtR a b
abbrev Pf a b:=X0 a gtR b
attribute [go_sem] SF Pf
theorem BNL(a:BkT):(BGD a)=(GO (AI (Ix (VV a) a) (Jl (VV a) a) (Ji a) (Dp (lH a) 4611686018427387904 (Ft ER (VV a))) (AS (EJ (zA a a)) (Ji a) (Ha (XR a) (IS a)) (AE (λi=>DV i (XR a) (Dn a i) (Ec a i) (Ek a i))) (Ix (VV a) a) (Jl (VV a) a) EO (eI (IS a)) (AS (Ga (IS a)) (DJ (λi=>QA (RQ (ZT a) i) (IS a) i (λj=>MG j (RQ (ZT a) i) (QO (IT (ZT a) i j) (IS a) i j) (IT (ZT a) i j) (IT (IS a) i j) (GF (ZT a) i j) (GF (IS a) i j) (FY (ZT a) i j) (FY (IS a) i j)))) (OP (IS a) (FZ a)) (AE (λi=>KV i (IS a) (Dn a i) (NE (FZ a) i) (Ec a i) (NH (FZ a) i) (Ek a i) (NV (FZ a) i))) (Jm (dZ a) (FZ a)) (Ik (dZ a) (FZ a)) (AI (Qu (XR a)) (TA (λi=>QV i (XR a) i i i i)) (Me (lH a)) (Ft ER (VV a)) (DJ (λi=>TO (Og i (VV a)) (Ej i) (HI i)))) (cV a) (eH a)))) (fA (fG a)) (OR (UG (Pf a a) 0) (HV (Pf a a)) 0 (GZ (Pf a a)) 0 (CQ (JJ (Pf a a))) (WX (Di (Sg a)) (OP (CX a) (IS a)) (λi=>KV i (CX a) (NE (CX a) i) (Dn a i) (NH (CX a) i) (Ec a i) (NV (CX a) i) (Ek a i)) (Ix (El a) a) (Jl (El a) a) (DJ (λi=>Ig (CX a) i (Df (FZ a) i))) (DJ (λi=>YM (CX a) i (FZ a) i)) (λi=>QA (OH a i) (FZ a) i (λj=>MG j (OH a i) (QO (UU a i j) (FZ a) i j) (UU a i j) (IT (FZ a) i j) (GF (CX a) i j) (GF (FZ a) i j) (FY (CX a) i j) (FY (FZ a) i j))))) (WV (IC (fG a)) (CG (λi=>And (FQ (Ji a) (AN (KO a) (fG a)) (λj=>FH j (KO a) (NS (lB a) j (YY a)) (EU (lB a) j) (EU (YY a) j) (EQ (lB a) j) (EQ (YY a) j) (EP (lB a) j) (EP (YY a) j)) (BC (KO a) (fG a)) (RL (BD i) (OP (CX a) (IS a)) (λj=>KV j (CX a) (NE (CX a) j) (Dn a j) (NH (CX a) j) (Ec a j) (NV (CX a) j) (Ek a j)) (Ix (El a) a) (Jl (El a) a) (DJ (λj=>Ig (CX a) j (Df (FZ a) j))) (DJ (λj=>YM (CX a) j (FZ a) j)) (H9 (DJ (λj=>QA (OH a j) (FZ a) j (λk=>MG k (OH a j) (QO (UU a j k) (FZ a) j k) (UU a j k) (IT (FZ a) j k) (GF (CX a) j k) (GF (FZ a) j k) (FY (CX a) j k) (FY (FZ a) j k)))) AL (FE AL (Ut (SF a i) (YY a) fV) (HV (SF a i)) (EU (YY a) fV) (kZ (SF a i) (EQ (YY a) fV)) (cF (SF a i) (EP (YY a) fV)))))) (fH i a))) (λi=>MU (fH i a) i (KO a) (AG (BE i (KO a)) (AI (PK (LH (lB a) i) (EQ (lB a) i) (EU (lB a) i) (EP (lB a) i)) (WS (Rx a)) (LU (SF a i)) (cV a) (eH a)) (EZ (TR (tO (Ze (LH (lB a) i) a) (Ze (SF a i) a))) (CG (λj=>FB (FQ (Ji a) (AR (KO a)) (λk=>Gg k (KO a) (lB a)) (EJ (KO a)) (RL (AU j i) (pO a) (λk=>Wz k (CX a) (Dc (CX a) k)) (pI a) (pG a) (oC a) (nK a) (H9 (DJ (λk=>Ce (OH a k) (λl=>Pv l (OH a k) (UU a k l)))) AL (FE AL (Ut (SF a j) (lB a) i) (HV (SF a j)) (EU (lB a) i) (kZ (SF a j) (EQ (lB a) i)) (cF (SF a j) (EP (lB a) i)))))) (fH j a) (KO a) j i)) (CG (λj=>FB (FQ (Ji a) (AR (KO a)) (λk=>Gg k (KO a) (lB a)) (EJ (KO a)) (RL (AU j i) (pO a) (λk=>Wz k (CX a) (Dc (CX a) k)) (pI a) (pG a) (oC a) (nK a) (H9 (DJ (λk=>Ce (OH a k) (λl=>Pv l (OH a k) (UU a k l)))) AL (FE AL (HQ (SF a j) (SF a i)) (HV (SF a j)) (HV (SF a i)) (Mb (SF a j) (SF a i)) (Dw (SF a j) (SF a i)))))) (fH j a) (KO a) j i)))) (OR (HQ (Pf a a) (SF a i)) (HV (Pf a a)) (HV (SF a i)) (GZ (Pf a a)) (GZ (SF a i)) (Dw (Pf a a) (SF a i)) (WX (GI (Sg a)) (pO a) (λj=>Wz j (CX a) (Dc (CX a) j)) (pI a) (pG a) (oC a) (nK a) (λj=>Ce (OH a j) (λk=>Pv k (OH a j) (UU a j k)))))))):=by kernel_rfl
theorem oB{lt:Rt->Rt->Bool}{t:Int}{l:List Ln}{i:Nat}(h:i<l.length):nG lt t l (i+1)=Kg lt t (nG lt t l i) (gD l i):=by
 unfold nG;rw[VP h,List.foldl_append];rfl
theorem X8{lt:Rt->Rt->Bool}{t:Int}{l:List Ln}:nG lt t l l.length=eF lt t l:=by unfold nG eF;rw[List.take_length]
theorem BFN{lt:Rt->Rt->Bool}{t:Int}:∀(l:List Ln) (b:Ln),(∀x∈l,PO x)->PO b->PO (l.foldl (Kg lt t) b)
 |[],_,_,hb=>hb
 |x :: l,b,h,hb=>by
  rw[List.foldl_cons]
  refine BFN l _ (λy hy=>h y (by simp[hy])) ?_
  unfold Kg;cases lt (LZ x t) (LZ b t)
  ·exact hb
  ·exact h x (by simp)
theorem AIO{lt:Rt->Rt->Bool}{t:Int}{l:List Ln}{i:Nat}(h:∀x∈l,PO x)(h0:0<l.length):PO (nG lt t l i):=
 BFN _ _ (λx hx=>h x (List.mem_of_mem_take hx)) (h _ (MF h0))
theorem BJD{s:List Gau}(h:∀g∈s,Ht g):∀x∈Rj s,PO x:=λx hx=>by
 unfold Rj at hx
 obtain⟨p,hp,hx⟩:=List.mem_flatMap.1 hx
 unfold blk at hx
 rcases List.mem_cons.1 hx with rfl | hx
 ·exact pS (gU h hp)
 ·exact dG.1 (List.mem_filter.1 hx).2
theorem BYP{s:List Gau}{t:Int}(h:∀g∈s,Ht g):∀x∈Nn s t,PO x:=λx hx=>by
 rw[yU] at hx
 revert hx
 cases (bif decide ((s.length:Int)>0) then ((gV s).length:Int)==0 else false) with
 |true=>intro hx;cases hx
 |false=>
  intro hx
  rcases List.mem_append.1 hx with hx | hx
  ·exact BJD h x (List.mem_filter.1 hx).1
  ·have:=(List.mem_filter.1 hx).2
   unfold Y3 at this
   cases hr:Ww x with
   |true=>exact dG.1 hr
   |false=>rw[hr] at this;cases this
theorem BYR{a:BkT}(h:gI a.w.g a.w.b):(lB a).length<=10098/\∀x∈lB a,PO x:=by
 obtain⟨hs,hN,hg⟩:=BSD (a:=⟨a.w,kB a,a.st⟩) h
 refine⟨?_,BYP hg⟩
 show (Nn (sB ⟨a.w,kB a,a.st⟩) a.st).length<=_
 have h1:=BHL hN
 have h2:=List.length_filter_le (Y3 (sB ⟨a.w,kB a,a.st⟩)) (Cv (sB ⟨a.w,kB a,a.st⟩) a.st)
 have h3:=L8 (s:=sB ⟨a.w,kB a,a.st⟩) (t:=a.st)
 rw[yU]
 cases (bif decide (((sB ⟨a.w,kB a,a.st⟩).length:Int)>0) then ((gV (sB ⟨a.w,kB a,a.st⟩)).length:Int)==0 else false) with
 |true=>exact Nat.zero_le _
 |false=>rw[cond_false,List.length_append];omega
theorem CCD(a:BkT)(h:gI a.w.g a.w.b)(h2:0<=a.st/\a.st<=2000):BFH a:=by
 rw[BZO]<;> delta LI UD KA LV JY LL HV GZ JJ NX HU EZ AK AN FI AE BA BN IQ BH CV DC ER NC TD KE Ff FD ZN MW CG NZ BP GU TA HT LH ZP Ft Hh Fc Ro DJ Df Qa Og IS Rx CS AG AI AO AJ AR DF Ri yN H9 VW QM Dc dZ IT AS CM EL gQ DY HZ IG VV M0 BG gO HC RQ BW DK DI E4 MK JH DO BO GJ VT HD JI EP PS JO CX KC ANX EJ EB MM DR EQ EX HS CI OS XJ FP yR EV GI NK BC EU UG GM FH rN DT RR ZT eI Mz Ce JD EO HQ BK wK tG AU IY HI AL Ga zM KO RJ Pv Wz PI IA DV BE FE EG HX UA Ve BQ LA zA zK OR Cq AGN US Ap Dr BD WH FQ XE FY MG Dp GF SV MD SA VD FZ NS KM CQ TM Ha PK FB El IC GO OH Jt X0 TO NV NH Di NE SH OP YY cF Dw KV UU Gg WV MU kZ RL QA QO Mb XR QG Ek LU Ec eD Dn Ji Me Jl Ix WS QV YM Ig Ik Jm fV fG Nx Ej Ze Qu WX fH eH Sg cV Ut fA pG nK oC pI lH Pj pO;simp only[CC,CU,P3,show Vx a.w.b a.st=kB a from rfl,show (BkS.mk a.w (kB a) a.st).w=a.w from rfl,show Nn (sB (BkS.mk a.w (kB a) a.st)) a.st=lB a from rfl,if_true]
 obtain⟨hl,hok⟩:=BYR h
 refine⟨⟨⟨by have:=h.2.2.1;omega,h.2.2.2.1⟩,rfl,λ_ _=>⟨rfl,rfl,rfl⟩,rfl,λ_ _=>rfl,h,h2⟩,λhc=>?_,λhc=>?_⟩
 ·have hc:(lB a).length=0:=by simpa using hc
  rw[decide_eq_true hc]
  exact⟨rfl,rfl,rfl,rfl,by omega,rfl,λ_ _=>⟨rfl,rfl,rfl⟩,rfl,λ_ _=>rfl⟩
 ·have hc:(lB a).length≠0:=by simpa using hc
  have hb:∀i,PO (nG ltR a.st (lB a) i):=λi=>AIO hok (by omega)
  refine⟨⟨by omega,by omega⟩,⟨0,⟨rfl,rfl,λ_ _=>⟨rfl,rfl,rfl⟩,rfl,λ_ _=>rfl,rfl,rfl,rfl,rfl⟩,Nat.zero_le _⟩,λi hi=>⟨λhlt=>?_,λhge=>?_⟩⟩
  ·have hlt':i<(lB a).length:=Int.ofNat_lt.1 hlt
   refine⟨⟨by omega,hlt⟩,⟨hok _ (MF hlt'),h2,hb i,h2⟩,λhp=>⟨i+1,⟨(GH (by omega)).symm,?_⟩,hlt',by omega⟩,λhp=>⟨i+1,⟨(GH (by omega)).symm,?_⟩,hlt',by omega⟩⟩
   ·rw[oB hlt',Kg,show ltR _ _=true from decide_eq_true hp];exact⟨rfl,rfl,rfl,rfl⟩
   ·rw[oB hlt',Kg,show ltR _ _=false from decide_eq_false hp];exact⟨rfl,rfl,rfl,rfl⟩
  ·rw[decide_eq_false hc,show i=(lB a).length by omega,X8]
   exact⟨rfl,rfl,rfl,rfl,hc⟩
theorem BRC:AH Try.prog ATI ((Qr ltR Ex).spec (dBkT Ex)):=PU (Qr ltR Ex) (ATP ltR Ex ARP) [] [] BJN (λ_=>by kernel_rfl) (λ_=>AA ACP (AA BZR (AA AOY (AA BTW AD)))) (λ(a:BkT) h=>by
 have h:gI a.w.g a.w.b/\0<=a.st/\a.st<=2000:=h
 exact CCD a h.1 h.2) (λ_=>RU rfl rfl) _
theorem CBJ(a:BkT)(h:gI a.w.g a.w.b)(h2:0<=a.st/\a.st<=2000):BGD a:=by
 rw[BNL]<;> delta LI UD KA LV JY LL HV GZ JJ NX HU EZ AK aD AN FI AE BA BN IQ BH CV DC ER NC TD KE Ff FD ZN MW CG NZ BP GU TA HT LH ZP Ft Hh Fc Ro DJ Df Qa Og IS Rx CS AG AI AO AJ AR DF Ri yN H9 VW QM Dc dZ IT AS CM EL gQ DY HZ IG VV M0 BG gO HC RQ BW DK DI E4 MK JH DO BO GJ VT HD JI EP PS JO CX KC ANX EJ EB MM DR EQ EX HS CI OS XJ FP yR EV GI NK BC EU UG GM FH rN DT RR ZT eI Mz Ce JD EO HQ BK wK tG AU IY HI AL Ga zM KO RJ Pv Wz PI IA DV BE FE EG HX UA Ve BQ LA zA zK OR Cq AGN US Ap Dr BD WH FQ XE FY MG Dp GF SV MD SA VD FZ NS KM CQ TM Ha PK FB El IC GO OH Jt X0 TO NV NH Di SF NE OP YY cF Dw KV UU Gg WV TR MU kZ RL QA QO Mb XR QG Ek LU Ec eD Dn Ji Me Jl Ix WS QV YM Ig Ik Jm Pf fV fG Ej Ze Qu WX fH eH Sg cV Ut fA pG nK oC pI lH pO;simp only[CC,CU,P3,show Vx a.w.b a.st=kB a from rfl,show (BkS.mk a.w (kB a) a.st).w=a.w from rfl,show Nn (sB (BkS.mk a.w (kB a) a.st)) a.st=lB a from rfl,if_true]
 obtain⟨hl,hok⟩:=BYR h
 refine⟨⟨⟨by have:=h.2.2.1;omega,h.2.2.2.1⟩,rfl,λ_ _=>⟨rfl,rfl,rfl⟩,rfl,λ_ _=>rfl,h,h2⟩,λhc=>?_,λhc=>?_⟩
 ·have hc:(lB a).length=0:=by simpa using hc
  rw[decide_eq_true hc]
  exact⟨rfl,rfl,rfl,rfl,by omega,rfl,λ_ _=>⟨rfl,rfl,rfl⟩,rfl,λ_ _=>rfl⟩
 ·have hc:(lB a).length≠0:=by simpa using hc
  have hb:∀i,PO (nG gtR a.st (lB a) i):=λi=>AIO hok (by omega)
  refine⟨⟨by omega,by omega⟩,⟨0,⟨rfl,rfl,λ_ _=>⟨rfl,rfl,rfl⟩,rfl,λ_ _=>rfl,rfl,rfl,rfl,rfl⟩,Nat.zero_le _⟩,λi hi=>⟨λhlt=>?_,λhge=>?_⟩⟩
  ·have hlt':i<(lB a).length:=Int.ofNat_lt.1 hlt
   refine⟨⟨by omega,hlt⟩,⟨hok _ (MF hlt'),h2,hb i,h2⟩,λhp=>⟨i+1,⟨(GH (by omega)).symm,?_⟩,hlt',by omega⟩,λhp=>⟨i+1,⟨(GH (by omega)).symm,?_⟩,hlt',by omega⟩⟩
   ·rw[oB hlt',Kg,show gtR _ _=true from decide_eq_true hp];exact⟨rfl,rfl,rfl,rfl⟩
   ·rw[oB hlt',Kg,show gtR _ _=false from decide_eq_false hp];exact⟨rfl,rfl,rfl,rfl⟩
  ·rw[decide_eq_false hc,show i=(lB a).length by omega,X8]
   exact⟨rfl,rfl,rfl,rfl,hc⟩
theorem BXI:AH Try.prog ATI ((Qr gtR Ev).spec (dBkT Ev)):=PU (Qr gtR Ev) (ATP gtR Ev AUS) [] [] BJN (λ_=>by kernel_rfl) (λ_=>AA ACP (AA BZR (AA AOY (AA BYH AD)))) (λ(a:BkT) h=>by
 have h:gI a.w.g a.w.b/\0<=a.st/\a.st<=2000:=h
 exact CBJ a h.1 h.2) (λ_=>RU rfl rfl) _
end Go.Bal
