/- Package rating: the least and the greatest flow at a stage. -/
import Derived.Test.YtceloknnpdonhaaGreatRatG
set_option linter.unusedVariables false
set_option linter.unusedSimpArgs false
namespace Go.Bal
open Go Go.Sym Go.Proofs
def cmpR(p q:Rt):Int:=wB (wr (p.n*q.d)) (wr (q.n*p.d))
def CAN:=pD dR2 λx=>.bool (decide (cmpR x.lo x.hi<0))
def BXX:=pD dR2 λx=>.bool (decide (cmpR x.lo x.hi>0))
def A_lm:Ann:=ann 9 [(ALU,BJK)]
def COW(a:Bnd):Prop:=BG Try.prog A_lm CCV (AL CCV) (xR2 a) (AF []) (.bool (decide (cmpR a.lo a.hi<0))) [] [] []
theorem CVL(a:Bnd):(COW a)=(JB (Ga (cmpR (ZX a) (Aa a))) (Ga (Gm (Og (IP a) (IR a)) (Og (IK a) (IW a))))):=by kernel_rfl
def CRL(a:Bnd):Prop:=BG Try.prog A_lm CBI (AL CBI) (xR2 a) (AF []) (.bool (decide (cmpR a.lo a.hi>0))) [] [] []
theorem DDU(a:Bnd):(CRL a)=(JB (Gb (cmpR (ZX a) (Aa a))) (Gb (Gm (Og (IP a) (IR a)) (Og (IK a) (IW a))))):=by kernel_rfl
theorem DAP:AM Try.prog Ib CAN:=Hv xR2 hR2 λg _=>Mj (A:=A_lm) (ren:=[]) (fz:=[]) DBI (by kernel_rfl) (AB D4 AG) (by
 show COW g;rw[CVL]<;> delta JB JD Hy Gm GE IG ZX Aa IR IP IW IK Og Ga;rfl)
theorem CWK:AM Try.prog Hx BXX:=Hv xR2 hR2 λg _=>Mj (A:=A_lm) (ren:=[]) (fz:=[]) CUU (by kernel_rfl) (AB D4 AG) (by
 show CRL g;rw[DDU]<;> delta JB Pp Hy Gm GE IG ZX Aa IR IP IW IK Gb Og;rfl)
def DMH:AVal:=.agg [.fn (.func Ib) [] []]
def DKR:AVal:=.agg [.fn (.func Hx) [] []]
def d0:List AVal->Heap->Option (One×List (Nat×Nat)×List Nat)
 |[],_=>some (default,[],[])
 |_,_=>none
def C_less:Ctr:={ α:=One,xs:=λ_=>[],L:=λ_=>[],val:=λ_=>DMH,keep:=λ_=>[] }
def C_more:Ctr:={ α:=One,xs:=λ_=>[],L:=λ_=>[],val:=λ_=>DKR,keep:=λ_=>[] }
def DDC(_x:One):Prop:=BG Try.prog (ann 2 []) CLF (AL CLF) [] (AF []) DMH [] [] []
theorem DFQ(_x:One):(DDC _x)=(FI):=by kernel_rfl
def DBQ(_x:One):Prop:=BG Try.prog (ann 2 []) CJE (AL CJE) [] (AF []) DKR [] [] []
theorem DFU(_x:One):(DBQ _x)=(FI):=by kernel_rfl
def dAL:List AVal->Option LnI
 |[.d (.iface 72 (.agg [.v (.int .i64 a),.v (.int .i64 b),.v (.int .i64 c),.v (.int .i64 d)])),.d (.v (.int .i64 s))]=>some ⟨⟨a,b,c,d⟩,s⟩
 |_=>none
def xAL(a:LnI):List AVal:=[.d (.iface 72 (eLn a.x)),.int a.s]
def CMG:=pD dAL (λa=>.d (eRt (OT a.x a.s))) (λa=>[RF a.x,0<=a.s/\a.s<=2000])
def CZF(a:LnI):Prop:=BG Try.prog (ann 8 [(BEE,BNO)]) BDU (AL BDU) (xAL a) (AF []) (.d (eRt (OT a.x a.s))) [] [] []
abbrev uY a:=AI (IG a)
attribute [go_sem] uY
theorem DFK(a:LnI):(CZF a)=(HE (Be (LJ (Iy a)) (Lz a) (HN (Lz a))) (GE (tU (Iy a) (Lz a))) (uY (tU (Iy a) (Lz a)))):=by kernel_rfl
theorem DKB:AM Try.prog CKS (C_less.spec d0):=WY C_less (λ_=>ann 2 []) [] [] DGL (λ_=>by kernel_rfl) (λ_=>AG) (λ(x:One) _=>by
 show DDC x;rw[DFQ]<;> delta FI;trivial) (λ_=>YE rfl rfl) _
theorem DGB:AM Try.prog CJY (C_more.spec d0):=WY C_more (λ_=>ann 2 []) [] [] DGE (λ_=>by kernel_rfl) (λ_=>AG) (λ(x:One) _=>by
 show DBQ x;rw[DFU]<;> delta FI;trivial) (λ_=>YE rfl rfl) _
theorem hAL(xs:List AVal)(a:LnI)(h:dAL xs=some a):xs=xAL a:=by
 unfold dAL at h;split at h<;>cases h;rfl
theorem CAZ:AM Try.prog AMO CMG:=Hv xAL hAL λa h=>Mj (A:=ann 8 [(BEE,BNO)]) (ren:=[]) (fz:=[]) CGT (by kernel_rfl) (AB CHO AG) (by
 show CZF a;rw[DFK]<;> delta AO DJ DX FC GF GD HB GE IG Iy Lz tU AH AJ AI BC HE EU YB HN QE uY LJ Be;exact⟨⟨h.1,h.2⟩,rfl,rfl⟩)
def Pn(lt:Rt->Rt->Bool)(t:Int)(b x:Ln):Ln:=bif lt (OT x t) (OT b t) then x else b
def A3(lt:Rt->Rt->Bool)(t:Int)(l:List Ln)(i:Nat):Ln:=(l.take i).foldl (Pn lt t) (gD l 0)
def mU(lt:Rt->Rt->Bool)(t:Int)(l:List Ln):Ln:=l.foldl (Pn lt t) (gD l 0)
def ltR(p q:Rt):Bool:=decide (cmpR p q<0)
def gtR(p q:Rt):Bool:=decide (cmpR p q>0)
structure BkT where
 w:Bk
 st:Int
def kB(a:BkT):Int:=Uo a.w.b a.st
def lB(a:BkT):List Ln:=Bm (Ys a.w (kB a)) a.st
def dBkT(n:FuncId):List AVal->Heap->Option (BkT×List (Nat×Nat)×List Nat)
 |[.bptr id _,.d t,.agg [.fn (.func g) [] []]],H=>if g=n then match BVU H id with
  |some (w,q)=>some (⟨w,EO t⟩,[(100,id),(101,q)],[])
  |none=>none else none
 |_,_=>none
def bvL(x:Ln)(b:Bool):AVal:=.tup [.d (eLn x),.bool b]
def be6(lt:Rt->Rt->Bool)(n:FuncId)(a:BkT):Shape:={ α:=Nat,dflt:=0,T:=λi=>⟨[(1,.int a.st),(5,.bptr 1000 0),(6,.bptr 1016 0),(9,.bptr 5048 0),(29,.d (eLns (lB a))),(30,.int (lB a).length),(31,.int i)],bkK (Du a.w (kB a)) ++ [(1000,.live (.box [.fn (.func n) [] []])),(1016,zLn),(5048,.live (.box [.int (A3 lt a.st (lB a) i).a0,.int (A3 lt a.st (lB a) i).a1,.int (A3 lt a.st (lB a) i).b0,.int (A3 lt a.st (lB a) i).b1]))]⟩,inv:=λi=>i<=(lB a).length,meas:=λi=>(lB a).length-i }
def Xs(lt:Rt->Rt->Bool)(n:FuncId):Ctr:={ ro:=[100],α:=BkT,xs:=λa=>[.bptr 100 0,.int a.st,.agg [.fn (.func n) [] []]],L:=λa=>bkL a.w,val:=λa=>bvL (bif decide ((lB a).length=0) then default else mU lt a.st (lB a)) (decide ((lB a).length≠0)),keep:=λa=>bkK (Du a.w (kB a)),pre:=λa=>[Ic a.w.g a.w.b/\0<=a.st/\a.st<=2000] }
def BZB(lt:Rt->Rt->Bool)(n:FuncId)(f:Sym.Spec)(a:BkT):Ann:={ ann 49 [(BJD,C_part.spec dIX),(BCE,C_lns.spec dBkS),(AMO,CMG),(n,f)] with E:=[100,101],loops:=λid=>if id=6 then some [be6 lt n a] else none }
def CQW(a:BkT):Prop:=BG Try.prog (BZB ltR Ib CAN a) BPT (AL BPT) ((Xs ltR Ib).xs a) (AF ((Xs ltR Ib).L a)) ((Xs ltR Ib).val a) ((Xs ltR Ib).keep a) [] []
abbrev ET:=BkT.w
abbrev WG:=BkT.st
abbrev A2 a b:=Du a (kB b)
abbrev CM a:=A2 (ET a) a
abbrev Ny a b c:=CF (CM a) b c
abbrev Oj a b c:=CH (CM a) b c
abbrev Rw a b:=Ca (CM a) b
abbrev L5 a:=OI (CM a)
abbrev K0 a:=QV (CM a)
abbrev Gc a b c d:=Gk a b (Il c d)
abbrev wO a:=XL (CM a)
abbrev F2 a:=GU (wO a)
abbrev XZ a:=QN (CM a)
abbrev I1 a:=BY (XZ a)
abbrev JV a:=JY (lB a)
abbrev dT a:=(λ(x0 x1:Nat)=>decide (x0≠x1)) (JV a) 0
abbrev Iu a b:=AO (HB a) (HB b)
abbrev BRE a b c:=A3 a (WG b) (lB b) c
abbrev WA a b:=BRE ltR a b
abbrev BFB a b c:=(@cond Ln) (jJ (JV a) 0) (@default Ln instInhabitedLn) (mU b (WG c) (lB a))
abbrev Vz a b:=BFB a ltR b
abbrev Iw a b:=AO (GD a) (GD b)
abbrev Kh a b:=AO (GF a) (GF b)
abbrev Ko a b:=AO (FC a) (FC b)
abbrev Pm a b c d:=AJ a b b c d
abbrev BBX a b c:=Pm a b b c
abbrev Bp a b:=NK (lB a) b
abbrev iJ a b:=tU a (WG b)
abbrev Nq a b c d e:=YB a b c (BC d) d e
abbrev mW a:=HN (WG a)
abbrev L2 a b c d:=Bm (sB (BkS.mk a b c)) d
abbrev ZS a:=Pd (ET a)
abbrev ACT a:=AU (Uo (ZS a) (WG a))
abbrev tP a b c d e:=Bk.mk a (sM b c) (Xt d) (Ma e)
abbrev sI a b:=NY (QN a) (QN b)
abbrev Yh a:=sI (ET a) (ET a)
abbrev Hw a:=tP (Yh a) (ET a) (ET a) (ET a) (ET a)
abbrev BEI a b:=NK (L2 (Hw a) (ACT a) (WG a) (WG a)) b
abbrev nF a:=BEI a xA
abbrev Hq a b(c:Nat->Prop):=FK (AR a b) c
abbrev Cw a b c(d:Nat->Prop):=Hq a (Ca b c) d
abbrev EX a b c(d:Nat->Prop):=Cw (Ca a b) c b d
abbrev Cy a b c d e f g h:=JZ a b (Yf c d e) (Yf f g a) h
abbrev DW a b c d e:=Cy a (Ca b c) b c a d c e
abbrev CU a b c d e f g h:=HC a b c d e (FB f g h)
abbrev IU a:=Du (Hw a) (ACT a)
abbrev MV a b:=AN (λi=>AO (Ma a i) (Ma b i))
abbrev SS a b c d:=JB (Xt a b) (Xt c d)
abbrev MP a b c:=Bn a b (Il c a)
abbrev NC a b:=AW a (XL b)
abbrev MO a b:=NC (XL a) b
abbrev XD a:=QN (ET a)
abbrev Up a b:=CG a (XD b)
abbrev lZ a:=JY (L2 (Hw a) (ACT a) (WG a) (WG a))
abbrev Oc a b:=EA (BN a) b
abbrev Mw a:=Oc a 24
abbrev PD a b(c:Int->Int->Prop)(d:Int->Prop):=AJ (EA (CW a) 24) (Jb (λi=>XK i a (UE i))) (Mw b) (Dc c b) (AN d)
abbrev Ka a b c:=BO ((@List.Mem Int) a b) c
abbrev Wr a b:=And (DJ 1 a) b
abbrev PG a b c d:=Ka a b (Wr c (HN d))
abbrev SX a b:=AT a (QN b)
abbrev IN a b:=CG a (QN b)
abbrev TI a b c d:=OB a b (Il c d)
abbrev wX a:=AI (WG a)
attribute [go_sem] ET WG A2 CM Ny Oj Rw L5 K0 Gc wO F2 XZ I1 JV dT Iu BRE WA BFB Vz Iw Kh Ko Pm BBX Bp iJ Nq mW L2 ZS ACT tP sI Yh Hw BEI nF Hq Cw EX Cy DW CU IU MV SS MP NC MO XD Up lZ Oc Mw PD Ka Wr PG SX IN TI wX
theorem DDA(a:BkT):(CQW a)=(BF (AJ (NC (ZS a) (ET a)) (AK (λi=>TI i (ZS a) (ET a) i)) (wX a) (And (HP (ZS a)) (Dc DX (ZS a))) (EB (AI (ACT a)) (wX a) (Up (Yh a) a) (AT (Yh a) (XD a)) (NC (ZS a) (ET a)) (λi=>TI i (ZS a) (ET a) i) CV (QV (ET a)) (EB (OI (ET a)) (AN (λi=>EX (Hw a) i (ET a) (λj=>DW j (Hw a) i (ET a) (CU (CH (Hw a) i j) (CH (ET a) i j) (CF (Hw a) i j) (CF (ET a) i j) (FB (Hw a) i j) (ET a) i j)))) (IN (XD a) (IU a)) (SX (XD a) (IU a)) (MO (ET a) (IU a)) (λi=>MP i (ET a) (IU a)) (PD (Yh a) (ZS a) DX (λi=>PG i (ZS a) i i)) (BC (WG a)) (mW a)))) (GA (AU (lZ a))) (AJ (BE (FC (Vz a a))) (BE (GF (Vz a a))) (BE (GD (Vz a a))) (BE (HB (Vz a a))) (VJ (HM (dT a)) (Up (XZ a) a) (λi=>CR i (XZ a) (XD a)) (MO (CM a) (ET a)) (λi=>MP i (CM a) (ET a)) (AN (λi=>SS (CM a) i (IU a) i)) (MV (CM a) (IU a)) (λi=>EX (CM a) i (IU a) (λj=>DW j (CM a) i (IU a) (CU (Oj a i j) (CH (IU a) i j) (Ny a i j) (CF (IU a) i j) (FB (CM a) i j) (IU a) i j))))) (Ou (Ih 0 (lZ a)) (LA (λi=>And (GP (WG a) (AR (JV a) (lZ a)) (AK (λj=>JG j (JV a) (Bp a j) (BEI a j))) (CN (JV a) (lZ a)) (WC (BS i) (Up (XZ a) a) (λj=>CR j (XZ a) (XD a)) (MO (CM a) (ET a)) (λj=>MP j (CM a) (ET a)) (AN (λj=>SS (CM a) j (IU a) j)) (MV (CM a) (IU a)) (BBX (AN (λj=>EX (CM a) j (IU a) (λk=>DW k (CM a) j (IU a) (CU (Oj a j k) (CH (IU a) j k) (Ny a j k) (CF (IU a) j k) (FB (CM a) j k) (IU a) j k)))) CL (GP FU (Ko (WA a i) (nF a)) (Kh (WA a i) (nF a)) (Iw (WA a i) (nF a)) (Iu (WA a i) (nF a)))))) (QT i (JV a)))) (λi=>CX (QT i (JV a)) i (AU (JV a)) (PC (DU i (JV a)) (Nq (LJ (Bp a i)) (EU (WG a) (mW a)) (LJ (WA a i)) (WG a) 2000) (Ga (cmpR (iJ (Bp a i) a) (iJ (WA a i) a))) (LA (λj=>Ux (GP (WG a) (BI (JV a)) (AK (λk=>Ot k (JV a) (Bp a k))) (TT (JV a)) (WC (AV j i) (I1 a) (λk=>HO k (XZ a)) (F2 a) (λk=>Gc k (wO a) (CM a) k) (K0 a) (L5 a) (BBX (AN (λk=>Ct (Rw a k) (λl=>Cq l (Rw a k) (CM a) k (Oj a k l) (Ny a k l)))) CL (GP FU (Ko (WA a j) (Bp a i)) (Kh (WA a j) (Bp a i)) (Iw (WA a j) (Bp a i)) (Iu (WA a j) (Bp a i)))))) j (JV a) j i)) (LA (λj=>Ux (GP (WG a) (BI (JV a)) (AK (λk=>Ot k (JV a) (Bp a k))) (TT (JV a)) (WC (AV j i) (I1 a) (λk=>HO k (XZ a)) (F2 a) (λk=>Gc k (wO a) (CM a) k) (K0 a) (L5 a) (BBX (AN (λk=>Ct (Rw a k) (λl=>Cq l (Rw a k) (CM a) k (Oj a k l) (Ny a k l)))) CL (GP FU (Ko (WA a j) (WA a i)) (Kh (WA a j) (WA a i)) (Iw (WA a j) (WA a i)) (Iu (WA a j) (WA a i)))))) j (JV a) j i))) (AJ (Ko (Vz a a) (WA a i)) (Kh (Vz a a) (WA a i)) (Iw (Vz a a) (WA a i)) (Iu (Vz a a) (WA a i)) (VJ (DR (dT a)) (I1 a) (λj=>HO j (XZ a)) (F2 a) (λj=>Gc j (wO a) (CM a) j) (K0 a) (L5 a) (λj=>Ct (Rw a j) (λk=>Cq k (Rw a j) (CM a) j (Oj a j k) (Ny a j k)))))))):=by kernel_rfl
def CPA(a:BkT):Prop:=BG Try.prog (BZB gtR Hx BXX a) BPT (AL BPT) ((Xs gtR Hx).xs a) (AF ((Xs gtR Hx).L a)) ((Xs gtR Hx).val a) ((Xs gtR Hx).keep a) [] []
abbrev VM a b:=BRE gtR a b
abbrev Xn a b:=BFB a gtR b
attribute [go_sem] VM Xn
theorem CXK(a:BkT):(CPA a)=(BF (AJ (NC (ZS a) (ET a)) (AK (λi=>TI i (ZS a) (ET a) i)) (wX a) (And (HP (ZS a)) (Dc DX (ZS a))) (EB (AI (ACT a)) (wX a) (Up (Yh a) a) (AT (Yh a) (XD a)) (NC (ZS a) (ET a)) (λi=>TI i (ZS a) (ET a) i) CV (QV (ET a)) (EB (OI (ET a)) (AN (λi=>EX (Hw a) i (ET a) (λj=>DW j (Hw a) i (ET a) (CU (CH (Hw a) i j) (CH (ET a) i j) (CF (Hw a) i j) (CF (ET a) i j) (FB (Hw a) i j) (ET a) i j)))) (IN (XD a) (IU a)) (SX (XD a) (IU a)) (MO (ET a) (IU a)) (λi=>MP i (ET a) (IU a)) (PD (Yh a) (ZS a) DX (λi=>PG i (ZS a) i i)) (BC (WG a)) (mW a)))) (GA (AU (lZ a))) (AJ (BE (FC (Xn a a))) (BE (GF (Xn a a))) (BE (GD (Xn a a))) (BE (HB (Xn a a))) (VJ (HM (dT a)) (Up (XZ a) a) (λi=>CR i (XZ a) (XD a)) (MO (CM a) (ET a)) (λi=>MP i (CM a) (ET a)) (AN (λi=>SS (CM a) i (IU a) i)) (MV (CM a) (IU a)) (λi=>EX (CM a) i (IU a) (λj=>DW j (CM a) i (IU a) (CU (Oj a i j) (CH (IU a) i j) (Ny a i j) (CF (IU a) i j) (FB (CM a) i j) (IU a) i j))))) (Ou (Ih 0 (lZ a)) (LA (λi=>And (GP (WG a) (AR (JV a) (lZ a)) (AK (λj=>JG j (JV a) (Bp a j) (BEI a j))) (CN (JV a) (lZ a)) (WC (BS i) (Up (XZ a) a) (λj=>CR j (XZ a) (XD a)) (MO (CM a) (ET a)) (λj=>MP j (CM a) (ET a)) (AN (λj=>SS (CM a) j (IU a) j)) (MV (CM a) (IU a)) (BBX (AN (λj=>EX (CM a) j (IU a) (λk=>DW k (CM a) j (IU a) (CU (Oj a j k) (CH (IU a) j k) (Ny a j k) (CF (IU a) j k) (FB (CM a) j k) (IU a) j k)))) CL (GP FU (Ko (VM a i) (nF a)) (Kh (VM a i) (nF a)) (Iw (VM a i) (nF a)) (Iu (VM a i) (nF a)))))) (QT i (JV a)))) (λi=>CX (QT i (JV a)) i (AU (JV a)) (PC (DU i (JV a)) (Nq (LJ (Bp a i)) (EU (WG a) (mW a)) (LJ (VM a i)) (WG a) 2000) (Gb (cmpR (iJ (Bp a i) a) (iJ (VM a i) a))) (LA (λj=>Ux (GP (WG a) (BI (JV a)) (AK (λk=>Ot k (JV a) (Bp a k))) (TT (JV a)) (WC (AV j i) (I1 a) (λk=>HO k (XZ a)) (F2 a) (λk=>Gc k (wO a) (CM a) k) (K0 a) (L5 a) (BBX (AN (λk=>Ct (Rw a k) (λl=>Cq l (Rw a k) (CM a) k (Oj a k l) (Ny a k l)))) CL (GP FU (Ko (VM a j) (Bp a i)) (Kh (VM a j) (Bp a i)) (Iw (VM a j) (Bp a i)) (Iu (VM a j) (Bp a i)))))) j (JV a) j i)) (LA (λj=>Ux (GP (WG a) (BI (JV a)) (AK (λk=>Ot k (JV a) (Bp a k))) (TT (JV a)) (WC (AV j i) (I1 a) (λk=>HO k (XZ a)) (F2 a) (λk=>Gc k (wO a) (CM a) k) (K0 a) (L5 a) (BBX (AN (λk=>Ct (Rw a k) (λl=>Cq l (Rw a k) (CM a) k (Oj a k l) (Ny a k l)))) CL (GP FU (Ko (VM a j) (VM a i)) (Kh (VM a j) (VM a i)) (Iw (VM a j) (VM a i)) (Iu (VM a j) (VM a i)))))) j (JV a) j i))) (AJ (Ko (Xn a a) (VM a i)) (Kh (Xn a a) (VM a i)) (Iw (Xn a a) (VM a i)) (Iu (Xn a a) (VM a i)) (VJ (DR (dT a)) (I1 a) (λj=>HO j (XZ a)) (F2 a) (λj=>Gc j (wO a) (CM a) j) (K0 a) (L5 a) (λj=>Ct (Rw a j) (λk=>Cq k (Rw a j) (CM a) j (Oj a j k) (Ny a j k)))))))):=by kernel_rfl
theorem C4{lt:Rt->Rt->Bool}{t:Int}{l:List Ln}{i:Nat}(h:i<l.length):A3 lt t l (i+1)=Pn lt t (A3 lt t l i) (gD l i):=by
 unfold A3;rw[WX h,List.foldl_append];rfl
theorem BFU{lt:Rt->Rt->Bool}{t:Int}{l:List Ln}:A3 lt t l l.length=mU lt t l:=by unfold A3 mU;rw[List.take_length]
theorem COB{lt:Rt->Rt->Bool}{t:Int}:∀(l:List Ln) (b:Ln),(∀x∈l,RF x)->RF b->RF (l.foldl (Pn lt t) b)
 |[],_,_,hb=>hb
 |x :: l,b,h,hb=>by
  rw[List.foldl_cons]
  refine COB l _ (λy hy=>h y (by simp[hy])) ?_
  unfold Pn;cases lt (OT x t) (OT b t)
  ·exact hb
  ·exact h x (by simp)
theorem BUH{lt:Rt->Rt->Bool}{t:Int}{l:List Ln}{i:Nat}(h:∀x∈l,RF x)(h0:0<l.length):RF (A3 lt t l i):=
 COB _ _ (λx hx=>h x (List.mem_of_mem_take hx)) (h _ (HI h0))
theorem CMX{s:List Gau}(h:∀g∈s,Oy g):∀x∈Yj s,RF x:=λx hx=>by
 unfold Yj at hx
 obtain⟨p,hp,hx⟩:=List.mem_flatMap.1 hx
 unfold blk at hx
 rcases List.mem_cons.1 hx with rfl | hx
 ·exact ABJ (tW h hp)
 ·exact gS.1 (List.mem_filter.1 hx).2
theorem DAG{s:List Gau}{t:Int}(h:∀g∈s,Oy g):∀x∈Bm s t,RF x:=λx hx=>by
 rw[BAL] at hx
 revert hx
 cases (bif decide ((s.length:Int)>0) then ((WZ s).length:Int)==0 else false) with
 |true=>intro hx;cases hx
 |false=>
  intro hx
  rcases List.mem_append.1 hx with hx | hx
  ·exact CMX h x (List.mem_filter.1 hx).1
  ·have:=(List.mem_filter.1 hx).2
   unfold okX at this
   cases hr:eM x with
   |true=>exact gS.1 hr
   |false=>rw[hr] at this;cases this
theorem CZG{a:BkT}(h:Ic a.w.g a.w.b):(lB a).length<=10098/\∀x∈lB a,RF x:=by
 obtain⟨hs,hN,hg⟩:=CWH (a:=⟨a.w,kB a,a.st⟩) h
 refine⟨?_,DAG hg⟩
 show (Bm (sB ⟨a.w,kB a,a.st⟩) a.st).length<=_
 have h1:=CPG hN
 have h2:=List.length_filter_le (okX (sB ⟨a.w,kB a,a.st⟩)) (PR (sB ⟨a.w,kB a,a.st⟩) a.st)
 have h3:=BCM (s:=sB ⟨a.w,kB a,a.st⟩) (t:=a.st)
 rw[BAL]
 cases (bif decide (((sB ⟨a.w,kB a,a.st⟩).length:Int)>0) then ((WZ (sB ⟨a.w,kB a,a.st⟩)).length:Int)==0 else false) with
 |true=>exact Nat.zero_le _
 |false=>rw[cond_false,List.length_append];omega
theorem DIW(a:BkT)(h:Ic a.w.g a.w.b)(h2:0<=a.st/\a.st<=2000):CQW a:=by
 rw[DDA]<;> delta JB Oz NE AR AK BO CI AO AU UH EA DV JD DJ DX OP IS LA Cu QJ FZ QP AN QT BN BJ jJ JN EY GW FC GF GD HB tU CW FX Jb JY NK Dc QN XL Xt Ma ET WG AH LY NX LX NY AJ AZ EV AI BI FJ RH Pm BBX sM sI DK AP Wm DI tP DY A2 BZ ED BC DZ EZ Pd Yh DN GQ JA HE ID Hw HC EU AW Ca QL HY GT YB GY FB Il HL UW GU CG CF Bt ZS GV IA Gk BY CH CK JZ Yf FK JV BD DR HN CE CM OB KJ GH OH EC AV Rv CV BF ES FU FM XD FF Nq GM HO OI QV BE ACT Bp Hq JO CN CU Cw NC BRE CR GP Cy CX NT Wr AT Oc CL BS Ct HR IU EX QE DW DU XK xA HP EB IN Ot Bn UE Ha XZ L2 WC GA MO BFB Ka WA HM VJ MP Aq Cq Kh TT Iu Mw PG Iw MV Ko JG SS TI SX LJ wO PC Gc Rw PD Oj Ny Up BEI Ga lZ Ih Vz Wj Ux iJ dT nF mW Ou K0 I1 F2 L5 wX;simp only[CC,eq_self,implies_true,forall_const,Wy,show Uo a.w.b a.st=kB a from rfl,show (BkS.mk a.w (kB a) a.st).w=a.w from rfl,show Bm (sB (BkS.mk a.w (kB a) a.st)) a.st=lB a from rfl,if_true]
 obtain⟨hl,hok⟩:=CZG h
 refine⟨⟨⟨by have:=h.2.2.1;omega,h.2.2.2.1⟩,rfl,λ_ _=>⟨rfl,rfl,rfl⟩,rfl,λ_ _=>rfl,h,h2⟩,λhc=>?_,λhc=>?_⟩
 ·have hc:(lB a).length=0:=by simpa using hc
  rw[decide_eq_true hc]
  exact⟨rfl,rfl,rfl,rfl,by omega,rfl,λ_ _=>⟨rfl,rfl,rfl⟩,rfl,λ_ _=>rfl⟩
 ·have hc:(lB a).length≠0:=by simpa using hc
  have hb:∀i,RF (A3 ltR a.st (lB a) i):=λi=>BUH hok (by omega)
  refine⟨⟨by omega,by omega⟩,⟨0,⟨rfl,rfl,λ_ _=>⟨rfl,rfl,rfl⟩,rfl,λ_ _=>rfl,rfl,rfl,rfl,rfl⟩,Nat.zero_le _⟩,λi hi=>⟨λhlt=>?_,λhge=>?_⟩⟩
  ·have hlt':i<(lB a).length:=Int.ofNat_lt.1 hlt
   refine⟨⟨by omega,hlt⟩,⟨hok _ (HI hlt'),h2,hb i,h2⟩,λhp=>⟨i+1,⟨(FN (by omega)).symm,?_⟩,hlt',by omega⟩,λhp=>⟨i+1,⟨(FN (by omega)).symm,?_⟩,hlt',by omega⟩⟩
   ·rw[C4 hlt',Pn,show ltR _ _=true from decide_eq_true hp];exact⟨rfl,rfl,rfl,rfl⟩
   ·rw[C4 hlt',Pn,show ltR _ _=false from decide_eq_false hp];exact⟨rfl,rfl,rfl,rfl⟩
  ·rw[decide_eq_false hc,show i=(lB a).length by omega,BFU]
   exact⟨rfl,rfl,rfl,rfl,hc⟩
theorem CTZ:AM Try.prog CAA ((Xs ltR Ib).spec (dBkT Ib)):=WY (Xs ltR Ib) (BZB ltR Ib CAN) [] [] COX (λ_=>by kernel_rfl) (λ_=>AB BBY (AB BFL (AB CAZ (AB DAP AG)))) (λ(a:BkT) h=>by
 have h:Ic a.w.g a.w.b/\0<=a.st/\a.st<=2000:=h
 exact DIW a h.1 h.2) (λ_=>YE rfl rfl) _
theorem DHU(a:BkT)(h:Ic a.w.g a.w.b)(h2:0<=a.st/\a.st<=2000):CPA a:=by
 rw[CXK]<;> delta JB Oz NE AR AK BO CI AO AU UH EA DV JD DJ DX OP IS LA Cu QJ Pp FZ QP AN QT BN BJ jJ JN EY GW FC GF GD HB tU CW FX Jb JY NK Dc QN XL Xt Ma ET WG AH LY NX LX NY AJ AZ EV AI BI FJ RH Pm BBX sM sI DK AP Wm DI tP DY A2 BZ ED BC DZ EZ Pd Yh DN GQ JA HE ID Hw HC EU AW Ca QL HY GT YB GY FB Il HL UW GU CG CF Bt ZS GV IA Gk BY CH CK JZ Yf FK JV BD DR HN CE CM OB KJ GH OH EC AV Rv CV BF ES FU FM XD FF Nq GM HO OI QV BE ACT Bp Hq JO CN CU Cw NC BRE CR GP Cy CX NT Wr AT Oc CL BS Ct HR IU EX QE DW DU XK xA HP EB IN Ot Bn UE Ha XZ L2 WC GA MO BFB Ka VM HM VJ MP Aq Cq Kh TT Iu Mw PG Iw MV Ko JG SS TI SX Gb LJ wO PC Gc Rw PD Oj Ny Up BEI lZ Xn Ih Wj Ux iJ dT nF mW Ou K0 I1 F2 L5 wX;simp only[CC,eq_self,implies_true,forall_const,Wy,show Uo a.w.b a.st=kB a from rfl,show (BkS.mk a.w (kB a) a.st).w=a.w from rfl,show Bm (sB (BkS.mk a.w (kB a) a.st)) a.st=lB a from rfl,if_true]
 obtain⟨hl,hok⟩:=CZG h
 refine⟨⟨⟨by have:=h.2.2.1;omega,h.2.2.2.1⟩,rfl,λ_ _=>⟨rfl,rfl,rfl⟩,rfl,λ_ _=>rfl,h,h2⟩,λhc=>?_,λhc=>?_⟩
 ·have hc:(lB a).length=0:=by simpa using hc
  rw[decide_eq_true hc]
  exact⟨rfl,rfl,rfl,rfl,by omega,rfl,λ_ _=>⟨rfl,rfl,rfl⟩,rfl,λ_ _=>rfl⟩
 ·have hc:(lB a).length≠0:=by simpa using hc
  have hb:∀i,RF (A3 gtR a.st (lB a) i):=λi=>BUH hok (by omega)
  refine⟨⟨by omega,by omega⟩,⟨0,⟨rfl,rfl,λ_ _=>⟨rfl,rfl,rfl⟩,rfl,λ_ _=>rfl,rfl,rfl,rfl,rfl⟩,Nat.zero_le _⟩,λi hi=>⟨λhlt=>?_,λhge=>?_⟩⟩
  ·have hlt':i<(lB a).length:=Int.ofNat_lt.1 hlt
   refine⟨⟨by omega,hlt⟩,⟨hok _ (HI hlt'),h2,hb i,h2⟩,λhp=>⟨i+1,⟨(FN (by omega)).symm,?_⟩,hlt',by omega⟩,λhp=>⟨i+1,⟨(FN (by omega)).symm,?_⟩,hlt',by omega⟩⟩
   ·rw[C4 hlt',Pn,show gtR _ _=true from decide_eq_true hp];exact⟨rfl,rfl,rfl,rfl⟩
   ·rw[C4 hlt',Pn,show gtR _ _=false from decide_eq_false hp];exact⟨rfl,rfl,rfl,rfl⟩
  ·rw[decide_eq_false hc,show i=(lB a).length by omega,BFU]
   exact⟨rfl,rfl,rfl,rfl,hc⟩
theorem CWW:AM Try.prog CAA ((Xs gtR Hx).spec (dBkT Hx)):=WY (Xs gtR Hx) (BZB gtR Hx BXX) [] [] COX (λ_=>by kernel_rfl) (λ_=>AB BBY (AB BFL (AB CAZ (AB CWK AG)))) (λ(a:BkT) h=>by
 have h:Ic a.w.g a.w.b/\0<=a.st/\a.st<=2000:=h
 exact DHU a h.1 h.2) (λ_=>YE rfl rfl) _
end Go.Bal
