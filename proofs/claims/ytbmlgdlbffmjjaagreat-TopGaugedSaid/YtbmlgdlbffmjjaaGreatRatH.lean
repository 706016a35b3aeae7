/- Package rating: the least and the greatest flow at a stage. -/
import Derived.Test.YtbmlgdlbffmjjaaGreatRatG
set_option linter.unusedVariables false
set_option linter.unusedSimpArgs false
namespace Go.Bal
open Go Go.Sym Go.Proofs
def vH(p q:Rt):Int:=kJ (wr (p.n*q.d)) (wr (q.n*p.d))
def ASY:=pD dR2 λx=>.bool (decide (vH x.lo x.hi<0))
def ATB:=pD dR2 λx=>.bool (decide (vH x.lo x.hi>0))
def A_lm:Ann:=ann 9 [(X8,ANS)]
def BGC(a:Bnd):Prop:=AX Try.prog A_lm APJ (AF APJ) (xR2 a) (AC []) (.bool (decide (vH a.lo a.hi<0))) [] [] []
theorem BVA(a:Bnd):(BGC a)=(LI (Pw (vH (mZ a) (mU a))) (Pw (kW (aP (OI a) (NA a)) (aP (OQ a) (NG a))))):=by kernel_rfl
def BIJ(a:Bnd):Prop:=AX Try.prog A_lm ATY (AF ATY) (xR2 a) (AC []) (.bool (decide (vH a.lo a.hi>0))) [] [] []
theorem BTO(a:Bnd):(BIJ a)=(LI (TM (vH (mZ a) (mU a))) (TM (kW (aP (OI a) (NA a)) (aP (OQ a) (NG a))))):=by kernel_rfl
theorem BZC:AH Try.prog Ex ASY:=MA xR2 hR2 λg _=>Ee (A:=A_lm) (ren:=[]) (fz:=[]) BWH (by kernel_rfl) (AA AKZ AD) (by
 show BGC g;rw[BVA]<;> delta LI NL kW Gg Dw D8 mZ mU aP NA NG OQ OI Pw;rfl)
theorem BQQ:AH Try.prog Fc ATB:=MA xR2 hR2 λg _=>Ee (A:=A_lm) (ren:=[]) (fz:=[]) BWZ (by kernel_rfl) (AA AKZ AD) (by
 show BIJ g;rw[BTO]<;> delta LI kW Xi Gg Dw D8 mZ mU aP NA NG OQ OI TM;rfl)
def CGV:AVal:=.agg [.fn (.func Ex) [] []]
def CHX:AVal:=.agg [.fn (.func Fc) [] []]
def d0:List AVal->Heap->Option (One×List (Nat×Nat)×List Nat)
 |[],_=>some (default,[],[])
 |_,_=>none
def C_less:Ctr:={ α:=One,xs:=λ_=>[],L:=λ_=>[],val:=λ_=>CGV,keep:=λ_=>[] }
def C_more:Ctr:={ α:=One,xs:=λ_=>[],L:=λ_=>[],val:=λ_=>CHX,keep:=λ_=>[] }
def BTJ(_x:One):Prop:=AX Try.prog (ann 2 []) BBY (AF BBY) [] (AC []) CGV [] [] []
theorem CBC(_x:One):(BTJ _x)=(FW):=by kernel_rfl
def BYI(_x:One):Prop:=AX Try.prog (ann 2 []) BBT (AF BBT) [] (AC []) CHX [] [] []
theorem CDX(_x:One):(BYI _x)=(FW):=by kernel_rfl
def dAL:List AVal->Option LnI
 |[.d (.iface 57 (.agg [.v (.int .i64 a),.v (.int .i64 b),.v (.int .i64 c),.v (.int .i64 d)])),.d (.v (.int .i64 s))]=>some ⟨⟨a,b,c,d⟩,s⟩
 |_=>none
def xAL(a:LnI):List AVal:=[.d (.iface 57 (eLn a.x)),.int a.s]
def BAL:=pD dAL (λa=>.d (eRt (MB a.x a.s))) (λa=>[PT a.x,0<=a.s/\a.s<=2000])
def BRK(a:LnI):Prop:=AX Try.prog (ann 8 [(ABX,AQG)]) AQW (AF AQW) (xAL a) (AC []) (.d (eRt (MB a.x a.s))) [] [] []
theorem CFW(a:LnI):(BRK a)=(HY (Bi (LU (eE a)) (kG a) (HJ (kG a))) (Gg (MB (eE a) (kG a))) (Dw (MB (eE a) (kG a)))):=by kernel_rfl
theorem CGG:AH Try.prog BEJ (C_less.spec d0):=PU C_less (λ_=>ann 2 []) [] [] CCQ (λ_=>by kernel_rfl) (λ_=>AD) (λ(x:One) _=>by
 show BTJ x;rw[CBC]<;> delta FW;trivial) (λ_=>RR rfl rfl) _
theorem CBU:AH Try.prog BAA (C_more.spec d0):=PU C_more (λ_=>ann 2 []) [] [] CAD (λ_=>by kernel_rfl) (λ_=>AD) (λ(x:One) _=>by
 show BYI x;rw[CDX]<;> delta FW;trivial) (λ_=>RR rfl rfl) _
theorem hAL(xs:List AVal)(a:LnI)(h:dAL xs=some a):xs=xAL a:=by
 unfold dAL at h;split at h<;>cases h;rfl
theorem API:AH Try.prog ACU BAL:=MA xAL hAL λa h=>Ee (A:=ann 8 [(ABX,AQG)]) (ren:=[]) (fz:=[]) BWR (by kernel_rfl) (AA BOL AD) (by
 show BRK a;rw[CFW]<;> delta LQ HV GZ JJ AK DC ER Gg Dw eE kG AG AI AJ CM HY BF EA HJ RB UC UZ KG PC LU Bi;exact⟨⟨h.1,h.2⟩,rfl,rfl⟩)
def Kf(lt:Rt->Rt->Bool)(t:Int)(b x:Ln):Ln:=bif lt (MB x t) (MB b t) then x else b
def mS(lt:Rt->Rt->Bool)(t:Int)(l:List Ln)(i:Nat):Ln:=(l.take i).foldl (Kf lt t) (gD l 0)
def dK(lt:Rt->Rt->Bool)(t:Int)(l:List Ln):Ln:=l.foldl (Kf lt t) (gD l 0)
def ltR(p q:Rt):Bool:=decide (vH p q<0)
def gtR(p q:Rt):Bool:=decide (vH p q>0)
structure BkT where
 w:Bk
 st:Int
def kB(a:BkT):Int:=Vs a.w.b a.st
def lB(a:BkT):List Ln:=No (Zt a.w (kB a)) a.st
def dBkT(n:FuncId):List AVal->Heap->Option (BkT×List (Nat×Nat)×List Nat)
 |[.bptr id _,.d t,.agg [.fn (.func g) [] []]],H=>if g=n then match BFI H id with
  |some (w,q)=>some (⟨w,LO t⟩,[(100,id),(101,q)],[])
  |none=>none else none
 |_,_=>none
def bvL(x:Ln)(b:Bool):AVal:=.tup [.d (eLn x),.bool b]
def be6(lt:Rt->Rt->Bool)(n:FuncId)(a:BkT):Shape:={ α:=Nat,dflt:=0,T:=λi=>⟨[(1,.int a.st),(5,.bptr 1000 0),(6,.bptr 1016 0),(9,.bptr 5048 0),(29,.d (N8 (lB a))),(30,.int (lB a).length),(31,.int i)],bkK (N9 a.w (kB a)) ++ [(1000,.live (.box [.fn (.func n) [] []])),(1016,zLn),(5048,.live (.box [.int (mS lt a.st (lB a) i).a0,.int (mS lt a.st (lB a) i).a1,.int (mS lt a.st (lB a) i).b0,.int (mS lt a.st (lB a) i).b1]))]⟩,inv:=λi=>i<=(lB a).length,meas:=λi=>(lB a).length-i }
def Oj(lt:Rt->Rt->Bool)(n:FuncId):Ctr:={ ro:=[100],α:=BkT,xs:=λa=>[.bptr 100 0,.int a.st,.agg [.fn (.func n) [] []]],L:=λa=>bkL a.w,val:=λa=>bvL (bif decide ((lB a).length=0) then default else dK lt a.st (lB a)) (decide ((lB a).length≠0)),keep:=λa=>bkK (N9 a.w (kB a)),pre:=λa=>[gJ a.w.g a.w.b/\0<=a.st/\a.st<=2000] }
def ASE(lt:Rt->Rt->Bool)(n:FuncId)(f:Sym.Spec)(a:BkT):Ann:={ ann 49 [(AHU,C_part.spec dIX),(ASI,C_lns.spec dBkS),(ACU,BAL),(n,f)] with E:=[100,101],loops:=λid=>if id=6 then some [be6 lt n a] else none }
def BHV(a:BkT):Prop:=AX Try.prog (ASE ltR Ex ASY a) AFC (AF AFC) ((Oj ltR Ex).xs a) (AC ((Oj ltR Ex).L a)) ((Oj ltR Ex).val a) ((Oj ltR Ex).keep a) [] []
abbrev IT:=BkT.w
abbrev Rx:=BkT.st
abbrev gS a b:=N9 a (kB b)
abbrev CX a:=gS (IT a) a
abbrev VB a b c:=IU (CX a) b c
abbrev OF a b:=RU (CX a) b
abbrev pW a:=Hg (CX a)
abbrev oY a:=dR (CX a)
abbrev Eg a:=Fe (CX a)
abbrev qV a:=EF (Eg a)
abbrev qN a:=HT (Eg a)
abbrev qW a:=yN (CX a)
abbrev KE a:=HR (lB a)
abbrev Sy a:=(λ(x0 x1:Nat)=>decide (x0≠x1)) (KE a) 0
abbrev AGV a b c:=mS a (Rx b) (lB b) c
abbrev SL a b:=AGV ltR a b
abbrev T5 a b c:=(@cond Ln) (XJ (KE a)) (@default Ln instInhabitedLn) (dK b (Rx c) (lB a))
abbrev Nv a b:=T5 a ltR b
abbrev dA a b:=NZ a (KE b)
abbrev I1 a b c:=yS a b b c
abbrev Jg a:=AJ (Rx a)
abbrev aH a b:=MB a (Rx b)
abbrev fU a:=HJ (Rx a)
abbrev dN a:=BF (Rx a)
abbrev dM:=MW 0
abbrev gB a:=Fe (IT a)
abbrev VR a:=EL (gB a)
abbrev yV a b:=Vs (VR a) (Rx b)
abbrev F4 a b:=Dd (IT a) b
abbrev ANR a b c:=J1 (IT a) (λi=>F4 b i) (VR a) c c
abbrev ZR a:=ANR a a (IT a)
abbrev YI a:=zC (BkS.mk (ZR a) (BH (yV a a)) (Rx a)) (Rx a)
abbrev GF a:=N9 (ZR a) (BH (yV a a))
abbrev Ik a b:=BR a (gB b)
abbrev Il a b:=BK a (gB b)
abbrev Ek a b:=JZ (F4 a b)
abbrev Ej a b:=LX (F4 a b)
abbrev Dj a b:=KA (F4 a b)
abbrev bW a:=HR (YI a)
abbrev kQ a:=FI (VR a)
abbrev YV a:=gQ (IT a) (λi=>F4 a i)
abbrev Ic a b:=BR a (Fe b)
abbrev Jq a b:=BK a (Fe b)
attribute [go_sem] IT Rx gS CX VB OF pW oY Eg qV qN qW KE Sy AGV SL T5 Nv dA I1 Jg aH fU dN dM gB VR yV F4 ANR ZR YI GF Ik Il Ek Ej Dj bW kQ YV Ic Jq
theorem BYS(a:BkT):(BHV a)=(GV (AI (Il (VR a) a) (Ik (VR a) a) (Jg a) (Dv (kQ a) 4611686018427387904 (Gm ER (VR a))) (AS (EI (yV a a)) (Jg a) (Fy (YV a) (IT a)) (AE (λi=>DZ i (YV a) (Dj a i) (Ej a i) (Ek a i))) (Il (VR a) a) (Ik (VR a) a) EO (dR (IT a)) (AS (Hg (IT a)) (DJ (λi=>PW (RU (ZR a) i) (IT a) i (λj=>ME j (RU (ZR a) i) (QB (IU (ZR a) i j) (IT a) i j) (IU (ZR a) i j) (IU (IT a) i j) (FY (ZR a) i j) (FY (IT a) i j) (GE (ZR a) i j) (GE (IT a) i j)))) (OK (IT a) (GF a)) (AE (λi=>KZ i (IT a) (Dj a i) (NK (GF a) i) (Ej a i) (NO (GF a) i) (Ek a i) (NH (GF a) i))) (Jq (gB a) (GF a)) (Ic (gB a) (GF a)) (AI (Qx (YV a)) (SX (λi=>RA i (YV a) i i i i)) (Kq (kQ a)) (Gm ER (VR a)) (DJ (λi=>TL (Rb i (VR a)) (Dt i) (HJ i)))) (dN a) (fU a)))) (eY (bW a)) (OD (UH (Nv a a) 0) (HV (Nv a a)) 0 (GZ (Nv a a)) 0 (CP (JJ (Nv a a))) (WS (Dz (Sy a)) (OK (CX a) (IT a)) (λi=>KZ i (CX a) (NK (CX a) i) (Dj a i) (NO (CX a) i) (Ej a i) (NH (CX a) i) (Ek a i)) (Il (Eg a) a) (Ik (Eg a) a) (DJ (λi=>Ix (CX a) i (De (GF a) i))) (DJ (λi=>YJ (CX a) i (GF a) i)) (λi=>PW (OF a i) (GF a) i (λj=>ME j (OF a i) (QB (VB a i j) (GF a) i j) (VB a i j) (IU (GF a) i j) (FY (CX a) i j) (FY (GF a) i j) (GE (CX a) i j) (GE (GF a) i j))))) (WM (HW (bW a)) (CG (λi=>And (FU (Jg a) (AN (KE a) (bW a)) (λj=>FH j (KE a) (NR (lB a) j (YI a)) (EU (lB a) j) (EU (YI a) j) (EQ (lB a) j) (EQ (YI a) j) (ES (lB a) j) (ES (YI a) j)) (BC (KE a) (bW a)) (QY (BD i) (OK (CX a) (IT a)) (λj=>KZ j (CX a) (NK (CX a) j) (Dj a j) (NO (CX a) j) (Ej a j) (NH (CX a) j) (Ek a j)) (Il (Eg a) a) (Ik (Eg a) a) (DJ (λj=>Ix (CX a) j (De (GF a) j))) (DJ (λj=>YJ (CX a) j (GF a) j)) (I1 (DJ (λj=>PW (OF a j) (GF a) j (λk=>ME k (OF a j) (QB (VB a j k) (GF a) j k) (VB a j k) (IU (GF a) j k) (FY (CX a) j k) (FY (GF a) j k) (GE (CX a) j k) (GE (GF a) j k)))) AL (FG AL (Ti (SL a i) (YI a) dM) (HV (SL a i)) (EU (YI a) dM) (iW (SL a i) (EQ (YI a) dM)) (fO (SL a i) (ES (YI a) dM)))))) (dA i a))) (λi=>MQ (dA i a) i (KE a) (AG (BE i (KE a)) (AI (PC (LF (lB a) i) (EQ (lB a) i) (EU (lB a) i) (ES (lB a) i)) (WF (Rx a)) (LU (SL a i)) (dN a) (fU a)) (FA (Pw (vH (aH (LF (lB a) i) a) (aH (SL a i) a))) (CG (λj=>EY (FU (Jg a) (AR (KE a)) (λk=>Hf k (KE a) (lB a)) (EI (KE a)) (QY (AU j i) (qW a) (λk=>Xr k (CX a) (Dd (CX a) k)) (qN a) (qV a) (oY a) (pW a) (I1 (DJ (λk=>Cs (OF a k) (λl=>Px l (OF a k) (VB a k l)))) AL (FG AL (Ti (SL a j) (lB a) i) (HV (SL a j)) (EU (lB a) i) (iW (SL a j) (EQ (lB a) i)) (fO (SL a j) (ES (lB a) i)))))) (dA j a) (KE a) j i)) (CG (λj=>EY (FU (Jg a) (AR (KE a)) (λk=>Hf k (KE a) (lB a)) (EI (KE a)) (QY (AU j i) (qW a) (λk=>Xr k (CX a) (Dd (CX a) k)) (qN a) (qV a) (oY a) (pW a) (I1 (DJ (λk=>Cs (OF a k) (λl=>Px l (OF a k) (VB a k l)))) AL (FG AL (HQ (SL a j) (SL a i)) (HV (SL a j)) (HV (SL a i)) (Mk (SL a j) (SL a i)) (Dk (SL a j) (SL a i)))))) (dA j a) (KE a) j i)))) (OD (HQ (Nv a a) (SL a i)) (HV (Nv a a)) (HV (SL a i)) (GZ (Nv a a)) (GZ (SL a i)) (Dk (Nv a a) (SL a i)) (WS (GI (Sy a)) (qW a) (λj=>Xr j (CX a) (Dd (CX a) j)) (qN a) (qV a) (oY a) (pW a) (λj=>Cs (OF a j) (λk=>Px k (OF a j) (VB a j k)))))))):=by kernel_rfl
def BJK(a:BkT):Prop:=AX Try.prog (ASE gtR Fc ATB a) AFC (AF AFC) ((Oj gtR Fc).xs a) (AC ((Oj gtR Fc).L a)) ((Oj gtR Fc).val a) ((Oj gtR Fc).keep a) [] []
abbrev SI a b:=AGV gtR a b
abbrev Qa a b:=T5 a gtR b
attribute [go_sem] SI Qa
theorem BSQ(a:BkT):(BJK a)=(GV (AI (Il (VR a) a) (Ik (VR a) a) (Jg a) (Dv (kQ a) 4611686018427387904 (Gm ER (VR a))) (AS (EI (yV a a)) (Jg a) (Fy (YV a) (IT a)) (AE (λi=>DZ i (YV a) (Dj a i) (Ej a i) (Ek a i))) (Il (VR a) a) (Ik (VR a) a) EO (dR (IT a)) (AS (Hg (IT a)) (DJ (λi=>PW (RU (ZR a) i) (IT a) i (λj=>ME j (RU (ZR a) i) (QB (IU (ZR a) i j) (IT a) i j) (IU (ZR a) i j) (IU (IT a) i j) (FY (ZR a) i j) (FY (IT a) i j) (GE (ZR a) i j) (GE (IT a) i j)))) (OK (IT a) (GF a)) (AE (λi=>KZ i (IT a) (Dj a i) (NK (GF a) i) (Ej a i) (NO (GF a) i) (Ek a i) (NH (GF a) i))) (Jq (gB a) (GF a)) (Ic (gB a) (GF a)) (AI (Qx (YV a)) (SX (λi=>RA i (YV a) i i i i)) (Kq (kQ a)) (Gm ER (VR a)) (DJ (λi=>TL (Rb i (VR a)) (Dt i) (HJ i)))) (dN a) (fU a)))) (eY (bW a)) (OD (UH (Qa a a) 0) (HV (Qa a a)) 0 (GZ (Qa a a)) 0 (CP (JJ (Qa a a))) (WS (Dz (Sy a)) (OK (CX a) (IT a)) (λi=>KZ i (CX a) (NK (CX a) i) (Dj a i) (NO (CX a) i) (Ej a i) (NH (CX a) i) (Ek a i)) (Il (Eg a) a) (Ik (Eg a) a) (DJ (λi=>Ix (CX a) i (De (GF a) i))) (DJ (λi=>YJ (CX a) i (GF a) i)) (λi=>PW (OF a i) (GF a) i (λj=>ME j (OF a i) (QB (VB a i j) (GF a) i j) (VB a i j) (IU (GF a) i j) (FY (CX a) i j) (FY (GF a) i j) (GE (CX a) i j) (GE (GF a) i j))))) (WM (HW (bW a)) (CG (λi=>And (FU (Jg a) (AN (KE a) (bW a)) (λj=>FH j (KE a) (NR (lB a) j (YI a)) (EU (lB a) j) (EU (YI a) j) (EQ (lB a) j) (EQ (YI a) j) (ES (lB a) j) (ES (YI a) j)) (BC (KE a) (bW a)) (QY (BD i) (OK (CX a) (IT a)) (λj=>KZ j (CX a) (NK (CX a) j) (Dj a j) (NO (CX a) j) (Ej a j) (NH (CX a) j) (Ek a j)) (Il (Eg a) a) (Ik (Eg a) a) (DJ (λj=>Ix (CX a) j (De (GF a) j))) (DJ (λj=>YJ (CX a) j (GF a) j)) (I1 (DJ (λj=>PW (OF a j) (GF a) j (λk=>ME k (OF a j) (QB (VB a j k) (GF a) j k) (VB a j k) (IU (GF a) j k) (FY (CX a) j k) (FY (GF a) j k) (GE (CX a) j k) (GE (GF a) j k)))) AL (FG AL (Ti (SI a i) (YI a) dM) (HV (SI a i)) (EU (YI a) dM) (iW (SI a i) (EQ (YI a) dM)) (fO (SI a i) (ES (YI a) dM)))))) (dA i a))) (λi=>MQ (dA i a) i (KE a) (AG (BE i (KE a)) (AI (PC (LF (lB a) i) (EQ (lB a) i) (EU (lB a) i) (ES (lB a) i)) (WF (Rx a)) (LU (SI a i)) (dN a) (fU a)) (FA (TM (vH (aH (LF (lB a) i) a) (aH (SI a i) a))) (CG (λj=>EY (FU (Jg a) (AR (KE a)) (λk=>Hf k (KE a) (lB a)) (EI (KE a)) (QY (AU j i) (qW a) (λk=>Xr k (CX a) (Dd (CX a) k)) (qN a) (qV a) (oY a) (pW a) (I1 (DJ (λk=>Cs (OF a k) (λl=>Px l (OF a k) (VB a k l)))) AL (FG AL (Ti (SI a j) (lB a) i) (HV (SI a j)) (EU (lB a) i) (iW (SI a j) (EQ (lB a) i)) (fO (SI a j) (ES (lB a) i)))))) (dA j a) (KE a) j i)) (CG (λj=>EY (FU (Jg a) (AR (KE a)) (λk=>Hf k (KE a) (lB a)) (EI (KE a)) (QY (AU j i) (qW a) (λk=>Xr k (CX a) (Dd (CX a) k)) (qN a) (qV a) (oY a) (pW a) (I1 (DJ (λk=>Cs (OF a k) (λl=>Px l (OF a k) (VB a k l)))) AL (FG AL (HQ (SI a j) (SI a i)) (HV (SI a j)) (HV (SI a i)) (Mk (SI a j) (SI a i)) (Dk (SI a j) (SI a i)))))) (dA j a) (KE a) j i)))) (OD (HQ (Qa a a) (SI a i)) (HV (Qa a a)) (HV (SI a i)) (GZ (Qa a a)) (GZ (SI a i)) (Dk (Qa a a) (SI a i)) (WS (GI (Sy a)) (qW a) (λj=>Xr j (CX a) (Dd (CX a) j)) (qN a) (qV a) (oY a) (pW a) (λj=>Cs (OF a j) (λk=>Px k (OF a j) (VB a j k)))))))):=by kernel_rfl
theorem nX{lt:Rt->Rt->Bool}{t:Int}{l:List Ln}{i:Nat}(h:i<l.length):mS lt t l (i+1)=Kf lt t (mS lt t l i) (gD l i):=by
 unfold mS;rw[VQ h,List.foldl_append];rfl
theorem Q8{lt:Rt->Rt->Bool}{t:Int}{l:List Ln}:mS lt t l l.length=dK lt t l:=by unfold mS dK;rw[List.take_length]
theorem BFB{lt:Rt->Rt->Bool}{t:Int}:∀(l:List Ln) (b:Ln),(∀x∈l,PT x)->PT b->PT (l.foldl (Kf lt t) b)
 |[],_,_,hb=>hb
 |x :: l,b,h,hb=>by
  rw[List.foldl_cons]
  refine BFB l _ (λy hy=>h y (by simp[hy])) ?_
  unfold Kf;cases lt (MB x t) (MB b t)
  ·exact hb
  ·exact h x (by simp)
theorem AEY{lt:Rt->Rt->Bool}{t:Int}{l:List Ln}{i:Nat}(h:∀x∈l,PT x)(h0:0<l.length):PT (mS lt t l i):=
 BFB _ _ (λx hx=>h x (List.mem_of_mem_take hx)) (h _ (MH h0))
theorem BJN{s:List Gau}(h:∀g∈s,Ho g):∀x∈Rr s,PT x:=λx hx=>by
 unfold Rr at hx
 obtain⟨p,hp,hx⟩:=List.mem_flatMap.1 hx
 unfold blk at hx
 rcases List.mem_cons.1 hx with rfl | hx
 ·exact oR (gR h hp)
 ·exact cP.1 (List.mem_filter.1 hx).2
theorem BTD{s:List Gau}{t:Int}(h:∀g∈s,Ho g):∀x∈No s t,PT x:=λx hx=>by
 rw[zW] at hx
 revert hx
 cases (bif decide ((s.length:Int)>0) then ((hU s).length:Int)==0 else false) with
 |true=>intro hx;cases hx
 |false=>
  intro hx
  rcases List.mem_append.1 hx with hx | hx
  ·exact BJN h x (List.mem_filter.1 hx).1
  ·have:=(List.mem_filter.1 hx).2
   unfold S4 at this
   cases hr:Zc x with
   |true=>exact cP.1 hr
   |false=>rw[hr] at this;cases this
theorem BZV{a:BkT}(h:gJ a.w.g a.w.b):(lB a).length<=10098/\∀x∈lB a,PT x:=by
 obtain⟨hs,hN,hg⟩:=BTV (a:=⟨a.w,kB a,a.st⟩) h
 refine⟨?_,BTD hg⟩
 show (No (sB ⟨a.w,kB a,a.st⟩) a.st).length<=_
 have h1:=BIS hN
 have h2:=List.length_filter_le (S4 (sB ⟨a.w,kB a,a.st⟩)) (Cv (sB ⟨a.w,kB a,a.st⟩) a.st)
 have h3:=G1 (s:=sB ⟨a.w,kB a,a.st⟩) (t:=a.st)
 rw[zW]
 cases (bif decide (((sB ⟨a.w,kB a,a.st⟩).length:Int)>0) then ((hU (sB ⟨a.w,kB a,a.st⟩)).length:Int)==0 else false) with
 |true=>exact Nat.zero_le _
 |false=>rw[cond_false,List.length_append];omega
theorem CDH(a:BkT)(h:gJ a.w.g a.w.b)(h2:0<=a.st/\a.st<=2000):BHV a:=by
 rw[BYS]<;> delta LI UD KA LX JZ LQ HV GZ JJ NL HU FA AK AN FI AE BA BM IR BH CW DC ER NE TD KJ Ff FF ZJ MW CG NZ BP GU SX HR LF ZU Gm Fw Fe Ro DJ De Pz Rb IT Rx CS AG AI AO AJ AR DR Ri yS I1 VY QG Dd gB IU AS CM EL gQ DW HY IF VR F4 BF gS HB RU BW DN DF J1 MM JG DK BO GH VT HA JH ES PS JK CX KD ANR EI EA ML DG EQ FB HT CI OT XJ FP yN EV GI NQ BC EU UH GM FH rF DT RO ZR dR Mw Cs JA EO HQ BK uA tK AU IY HJ AL Hg D2 KE RB Px Xr OV HZ DZ BE FG EF IA UC Sr BR LB yV zC OD Bf AGV UZ Ch Em BD XB FU WI GE ME Dv FY SC MI SG VC GF NR KG CP TF Fy PC EY Eg HW GV OF Iy T5 TL NH NO Dz NK SL OK YI fO Dk KZ VB Hf WM MQ iW QY PW QB Mk YV QI Ek LU Ej cI Dj Jg Kq Ik Il WF RA YJ Ix Ic Jq dM bW Nv Dt aH Qx WS dA fU Sy dN Ti eY qV pW oY qN kQ Pw qW;simp only[CC,CU,V4,show Vs a.w.b a.st=kB a from rfl,show (BkS.mk a.w (kB a) a.st).w=a.w from rfl,show No (sB (BkS.mk a.w (kB a) a.st)) a.st=lB a from rfl,if_true]
 obtain⟨hl,hok⟩:=BZV h
 refine⟨⟨⟨by have:=h.2.2.1;omega,h.2.2.2.1⟩,rfl,λ_ _=>⟨rfl,rfl,rfl⟩,rfl,λ_ _=>rfl,h,h2⟩,λhc=>?_,λhc=>?_⟩
 ·have hc:(lB a).length=0:=by simpa using hc
  rw[decide_eq_true hc]
  exact⟨rfl,rfl,rfl,rfl,by omega,rfl,λ_ _=>⟨rfl,rfl,rfl⟩,rfl,λ_ _=>rfl⟩
 ·have hc:(lB a).length≠0:=by simpa using hc
  have hb:∀i,PT (mS ltR a.st (lB a) i):=λi=>AEY hok (by omega)
  refine⟨⟨by omega,by omega⟩,⟨0,⟨rfl,rfl,λ_ _=>⟨rfl,rfl,rfl⟩,rfl,λ_ _=>rfl,rfl,rfl,rfl,rfl⟩,Nat.zero_le _⟩,λi hi=>⟨λhlt=>?_,λhge=>?_⟩⟩
  ·have hlt':i<(lB a).length:=Int.ofNat_lt.1 hlt
   refine⟨⟨by omega,hlt⟩,⟨hok _ (MH hlt'),h2,hb i,h2⟩,λhp=>⟨i+1,⟨(GJ (by omega)).symm,?_⟩,hlt',by omega⟩,λhp=>⟨i+1,⟨(GJ (by omega)).symm,?_⟩,hlt',by omega⟩⟩
   ·rw[nX hlt',Kf,show ltR _ _=true from decide_eq_true hp];exact⟨rfl,rfl,rfl,rfl⟩
   ·rw[nX hlt',Kf,show ltR _ _=false from decide_eq_false hp];exact⟨rfl,rfl,rfl,rfl⟩
  ·rw[decide_eq_false hc,show i=(lB a).length by omega,Q8]
   exact⟨rfl,rfl,rfl,rfl,hc⟩
theorem BTG:AH Try.prog APX ((Oj ltR Ex).spec (dBkT Ex)):=PU (Oj ltR Ex) (ASE ltR Ex ASY) [] [] BGB (λ_=>by kernel_rfl) (λ_=>AA ADF (AA BQY (AA API (AA BZC AD)))) (λ(a:BkT) h=>by
 have h:gJ a.w.g a.w.b/\0<=a.st/\a.st<=2000:=h
 exact CDH a h.1 h.2) (λ_=>RR rfl rfl) _
theorem CGL(a:BkT)(h:gJ a.w.g a.w.b)(h2:0<=a.st/\a.st<=2000):BJK a:=by
 rw[BSQ]<;> delta LI UD KA LX JZ LQ HV GZ JJ NL HU FA AK Xi AN FI AE BA BM IR BH CW DC ER NE TD KJ Ff FF ZJ MW CG NZ BP GU SX HR LF ZU Gm Fw Fe Ro DJ De Pz Rb IT Rx CS AG AI AO AJ AR DR Ri yS I1 VY QG Dd gB IU AS CM EL gQ DW HY IF VR F4 BF gS HB RU BW DN DF J1 MM JG DK BO GH VT HA JH ES PS JK CX KD ANR EI EA ML DG EQ FB HT CI OT XJ FP yN EV GI NQ BC EU UH GM FH rF DT RO ZR dR Mw Cs JA EO HQ BK uA tK AU IY HJ AL Hg D2 KE RB Px Xr OV HZ DZ BE FG EF IA UC Sr BR LB yV zC OD Bf AGV UZ Ch Em BD XB FU WI GE ME Dv FY SC MI SG VC GF NR KG CP TF Fy PC EY Eg HW GV OF Iy T5 TL NH NO Dz SI NK OK YI fO Dk KZ VB Hf WM TM MQ iW QY PW QB Mk YV QI Ek LU Ej cI Dj Jg Kq Ik Il WF RA YJ Ix Ic Jq Qa dM bW Dt aH Qx WS dA fU Sy dN Ti eY qV pW oY qN kQ qW;simp only[CC,CU,V4,show Vs a.w.b a.st=kB a from rfl,show (BkS.mk a.w (kB a) a.st).w=a.w from rfl,show No (sB (BkS.mk a.w (kB a) a.st)) a.st=lB a from rfl,if_true]
 obtain⟨hl,hok⟩:=BZV h
 refine⟨⟨⟨by have:=h.2.2.1;omega,h.2.2.2.1⟩,rfl,λ_ _=>⟨rfl,rfl,rfl⟩,rfl,λ_ _=>rfl,h,h2⟩,λhc=>?_,λhc=>?_⟩
 ·have hc:(lB a).length=0:=by simpa using hc
  rw[decide_eq_true hc]
  exact⟨rfl,rfl,rfl,rfl,by omega,rfl,λ_ _=>⟨rfl,rfl,rfl⟩,rfl,λ_ _=>rfl⟩
 ·have hc:(lB a).length≠0:=by simpa using hc
  have hb:∀i,PT (mS gtR a.st (lB a) i):=λi=>AEY hok (by omega)
  refine⟨⟨by omega,by omega⟩,⟨0,⟨rfl,rfl,λ_ _=>⟨rfl,rfl,rfl⟩,rfl,λ_ _=>rfl,rfl,rfl,rfl,rfl⟩,Nat.zero_le _⟩,λi hi=>⟨λhlt=>?_,λhge=>?_⟩⟩
  ·have hlt':i<(lB a).length:=Int.ofNat_lt.1 hlt
   refine⟨⟨by omega,hlt⟩,⟨hok _ (MH hlt'),h2,hb i,h2⟩,λhp=>⟨i+1,⟨(GJ (by omega)).symm,?_⟩,hlt',by omega⟩,λhp=>⟨i+1,⟨(GJ (by omega)).symm,?_⟩,hlt',by omega⟩⟩
   ·rw[nX hlt',Kf,show gtR _ _=true from decide_eq_true hp];exact⟨rfl,rfl,rfl,rfl⟩
   ·rw[nX hlt',Kf,show gtR _ _=false from decide_eq_false hp];exact⟨rfl,rfl,rfl,rfl⟩
  ·rw[decide_eq_false hc,show i=(lB a).length by omega,Q8]
   exact⟨rfl,rfl,rfl,rfl,hc⟩
theorem BUE:AH Try.prog APX ((Oj gtR Fc).spec (dBkT Fc)):=PU (Oj gtR Fc) (ASE gtR Fc ATB) [] [] BGB (λ_=>by kernel_rfl) (λ_=>AA ADF (AA BQY (AA API (AA BQQ AD)))) (λ(a:BkT) h=>by
 have h:gJ a.w.g a.w.b/\0<=a.st/\a.st<=2000:=h
 exact CGL a h.1 h.2) (λ_=>RR rfl rfl) _
end Go.Bal
