/- TopGauged: copies, lines, bounds, the examples. -/
import Derived.Test.YtbmlgdlbffmjjaaGreatGaI
import Derived.Test.YtbmlgdlbffmjjaaGreatGaV
import Derived.Test.YtbmlgdlbffmjjaaGreatRatU
set_option linter.unusedVariables false
set_option linter.unusedSimpArgs false
set_option maxRecDepth 8000
namespace Go.Bal
open Go Go.Sym Go.Proofs
def BAL:List AVal->Heap->Option (List Lin×List (Nat×Nat)×List Nat)
 |[.d (.list _ n f _)],_=>some (WA n λj=>vH (f j),[],[])
 |_,_=>none
structure LvS where
 s:Stm
 h:List Int
 a:Int
 b:Int
 d:Int
def zO(x:LvS):Int:=cW x.s 9
def lvS1(x:LvS):Stm:=mF x.s 9
def lvR(x:LvS):Int:=wr (wr (gD x.h x.b.toNat-gD x.h x.a.toNat)+witV (lvS1 x) (wr (-(zO x))) (zO x))
def lvL(x:LvS):Lin:=⟨x.a,x.b,x.d,lvR x,zO x⟩
def lvS(x:LvS):Stm:=witS (lvS1 x) (wr (-(zO x))) (zO x)
def C_Lvd:Ctr:={ α:=LvS,xs:=λx=>[.bptr 100 0,.d (IM x.h),.int x.a,.int x.b,.int x.d],L:=λx=>[(100,stmO x.s)],val:=λx=>.d (eLin (lvL x)),keep:=λx=>[(100,stmH (lvS x))],pre:=λx=>[(0<=x.s.used/\0<=(lvS1 x).used)/\(0<=x.a/\x.a<x.h.length)/\(0<=x.b/\x.b<x.h.length)] }
def CIX:List AVal->Heap->Option (LvS×List (Nat×Nat)×List Nat)
 |[.bptr p _,.d (.list _ n g _),.d (.v (.int .i64 a)),.d (.v (.int .i64 b)),.d (.v (.int .i64 d))],H=>match BEQ H p with
  |some s=>some (⟨s,WA n λi=>LR (g i),a,b,d⟩,[(100,p)],[])
  |none=>none
 |_,_=>none
def CJQ:Ann:={ ann 37 [(AKP,C_Next.spec APJ),(E1,C_Within.spec AEK)] with E:=[100] }
def CHQ(x:LvS):Prop:=AX Try.prog CJQ BZC (AF BZC) (C_Lvd.xs x) (AC (C_Lvd.L x)) (C_Lvd.val x) (C_Lvd.keep x) [] []
abbrev J8:=LvS.s
abbrev qU a b c:=mE (gL a) b c
abbrev iT a:=kK (J8 a) 9
abbrev uQ a:=Se (iT a)
abbrev aL a:=fF (J8 a) 9
attribute [go_sem] J8 qU iT uQ aL
theorem CLU(x:LvS):(CHQ x)=(AG (AV (JN 9 9) (WR (J8 x)) (Gd (J8 x)) (XC (J8 x)) (XD (J8 x)) (Tl (J8 x))) (AS (DT (LvS.b x) (FI (LvS.h x))) (DT (LvS.a x) (FI (LvS.h x))) (AJ (uQ x)) (AJ (iT x)) (WR (aL x)) (Gd (aL x)) (XC (aL x)) (XD (aL x)) (Tl (aL x))) (AS (AK (TC (lvL x)) (LvS.a x)) (AK (TE (lvL x)) (LvS.b x)) (AK (ZM (lvL x)) (LvS.d x)) (AK (ZJ (lvL x)) (DK (IR (Zu (LvS.h x) (LvS.b x)) (Zu (LvS.h x) (LvS.a x))) (mH (gL (aL x)) (uQ x) (iT x)))) (AK (ZL (lvL x)) (iT x)) (HK (lvS x) (qU (aL x) (uQ x) (iT x))) (JL (lvS x) (qU (aL x) (uQ x) (iT x))) (JF (lvS x) (qU (aL x) (uQ x) (iT x))) (JB (lvS x) (qU (aL x) (uQ x) (iT x))))):=by kernel_rfl
structure NSp where
 n:Int
 s:Span
def xNSp(x:NSp):List AVal:=[.int x.n,.d (UJ x.s)]
def dNSp:List AVal->Option NSp
 |[.d (.v (.int .i64 n)),.d (.agg [.v (.int .i64 a),.v (.int .i64 b)])]=>some ⟨n,⟨a,b⟩⟩
 |_=>none
theorem hNSp(xs:List AVal)(a:NSp)(h:dNSp xs=some a):xs=xNSp a:=by
 unfold dNSp at h;split at h<;>cases h;rfl
def BNS:=pD dNSp λx=>.bool (MN x.n x.s.lo x.s.hi)
def BYQ(x:NSp):Prop:=AX Try.prog (ann 15 []) BCP (AF BCP) (xNSp x) (AC []) (.bool (MN x.n x.s.lo x.s.hi)) [] [] []
abbrev fW a b c:=MN a b (EE c)
attribute [go_sem] fW
theorem CDF(x:NSp):(BYQ x)=(WQ (fW (NSp.n x) (CE (NSp.s x)) (NSp.s x)) (N4 (NSp.n x) (CE (NSp.s x))) (NSp.n x) (EE (NSp.s x))):=by kernel_rfl
structure RBd where
 q:Rt
 b:Bnd
def xRBd(x:RBd):List AVal:=[.d (eRt x.q),.d (eBnd x.b)]
def dRBd:List AVal->Option RBd
 |[.d (.agg [.v (.int .i64 n),.v (.int .i64 d)]),.d (.agg [.v (.int .i64 a),.v (.int .i64 b),.v (.int .i64 c),.v (.int .i64 e)])]=>some ⟨⟨n,d⟩,⟨⟨a,b⟩,⟨c,e⟩⟩⟩
 |_=>none
theorem hRBd(xs:List AVal)(a:RBd)(h:dRBd xs=some a):xs=xRBd a:=by
 unfold dRBd at h;split at h<;>cases h;rfl
def btM(x:RBd):Bool:=bif bif bif bif decide (x.q.d>0) then decide (x.b.lo.d>0) else false then decide (x.b.hi.d>0) else false then decide (wr (x.b.lo.n*x.q.d)<=wr (x.q.n*x.b.lo.d)) else false then decide (wr (x.q.n*x.b.hi.d)<=wr (x.b.hi.n*x.q.d)) else false
def AST:=pD dRBd λx=>.bool (btM x)
def BRO(x:RBd):Prop:=AX Try.prog (ann 50 []) BAU (AF BAU) (xRBd x) (AC []) (.bool (btM x)) [] [] []
abbrev Z8:=RBd.b
attribute [go_sem] Z8
theorem CFT(x:RBd):(BRO x)=(WQ (btM x) (BY (BY (BY (TR (Dj (RBd.q x))) (TR (NW (Z8 x)))) (TR (NB (Z8 x)))) (hd7 (JA (OJ (Z8 x)) (Dj (RBd.q x))) (JA (Gn (RBd.q x)) (NW (Z8 x))))) (JA (Gn (RBd.q x)) (NB (Z8 x))) (JA (OG (Z8 x)) (Dj (RBd.q x)))):=by kernel_rfl
structure BB2 where
 a:Bnd
 b:Bnd
def xBB2(x:BB2):List AVal:=[.d (eBnd x.a),.d (eBnd x.b)]
def dBB2:List AVal->Option BB2
 |[.d (.agg [.v (.int .i64 p),.v (.int .i64 q),.v (.int .i64 r),.v (.int .i64 s)]),.d (.agg [.v (.int .i64 a),.v (.int .i64 b),.v (.int .i64 c),.v (.int .i64 e)])]=>some ⟨⟨⟨p,q⟩,⟨r,s⟩⟩,⟨⟨a,b⟩,⟨c,e⟩⟩⟩
 |_=>none
theorem hBB2(xs:List AVal)(a:BB2)(h:dBB2 xs=some a):xs=xBB2 a:=by
 unfold dBB2 at h;split at h<;>cases h;rfl
def BTK:=pD dBB2 λx=>.bool (btM ⟨x.a.lo,x.b⟩&&btM ⟨x.a.hi,x.b⟩)
def BQB(x:BB2):Prop:=AX Try.prog (ann 15 [(AFK,AST)]) BAQ (AF BAQ) (xBB2 x) (AC []) (.bool (btM ⟨x.a.lo,x.b⟩&&btM ⟨x.a.hi,x.b⟩)) [] [] []
abbrev AAZ:=BB2.b
abbrev K8:=Bnd.mk
abbrev gA a b:=btM (RBd.mk a b)
attribute [go_sem] AAZ K8 gA
theorem CAQ(x:BB2):(BQB x)=(HY (and (gA (nI (BB2.a x)) (AAZ x)) (gA (mA (BB2.a x)) (AAZ x))) (gA (nI (BB2.a x)) (K8 (nI (AAZ x)) (mA (AAZ x)))) (gA (mA (BB2.a x)) (K8 (nI (AAZ x)) (mA (AAZ x))))):=by kernel_rfl
def C_l1Thr:Ctr:={ α:=One,xs:=λ_=>[.int 148],L:=λ_=>[],val:=λ_=>.d (Q9 thr),keep:=λ_=>[] }
def CIZ:List AVal->Heap->Option (One×List (Nat×Nat)×List Nat)
 |[.d (.v (.int .i64 148))],_=>some (default,[],[])
 |_,_=>none
def BGN(_x:One):Prop:=AX Try.prog (ann 9 []) T2 (AF T2) [.int 148] (AC []) (.d (Q9 thr)) [] [] [2064]
theorem BPQ(_x:One):(BGN _x)=(AQ AT FX (VR 3) (AE (λi=>LF i 3 (LN (IV thr i) i 0 (Fq i 1 0)) (LN (EN thr i) i 1 (Fq i 2 2)) (LN (FL thr i) i 5 (Fq i 5 9)) (LN (JX thr i) i 100 (Fq i 50 148)) (LN (JV thr i) i 2 (Fq i 1 3))))):=by kernel_rfl
def l95:DVal:=.list 1 2 (cl2 95 18) false
def C_SmI:Ctr:={ α:=One,xs:=λ_=>[.d l95,.d l95],L:=λ_=>[],val:=λ_=>.bool true,keep:=λ_=>[] }
def CHW:Ann:={ ann 26 [] with unr:=λid=>if id=4 then 3 else 0 }
def CJH(_x:One):Prop:=AX Try.prog CHW ATH (AF ATH) [.d l95,.d l95] (AC []) (.bool true) [] [] []
theorem CNS(_x:One):(CJH _x)=(AG (AG Oj (DC 0 0) (DR 0 2)) (Br Qc 1 (DR 1 2)) GQ):=by kernel_rfl
def C_aw9:Ctr:={ α:=One,xs:=λ_=>[],L:=λ_=>[],val:=λ_=>.bool true,keep:=λ_=>[] }
def C_Btw0:Ctr:={ α:=One,xs:=λ_=>[.d (Q9 thr),.int 0,.int 2],L:=λ_=>[],val:=λ_=>.tup [.d (UJ ⟨147,151⟩),.int 0],keep:=λ_=>[] }
def CJI:Ann:=ann 47 [(V3,C_l1Thr.spec CIZ),(AMG,C_Btw0.spec d_3),(AEY,C_l7Four.spec d_1),(BBK,C_dVol.spec d_3),(AUV,C_l9Two.spec T7),(AQW,C_sReal.spec S2),(ASH,C_SmI.spec S2)]
def CKI(_x:One):Prop:=AX Try.prog CJI AJP (AF AJP) [] (AC []) (.bool true) [] [] []
theorem CMR(_x:One):(CKI _x)=(AI (AV (BO 148) AT FX (AE (λi=>LF i 3 (YN thr i) (YF thr i) (YV thr i) (YZ thr i) (YH thr i))) AL BL) (CM (BO 58) (FD 10) (FQ ED EK (λi=>Pn i (HZ (DF (Jv i)) (Iw i) (Im i))) XL BL)) (SI BL FX (λi=>OK i i i i) (BO 120)) (PY (ABE CO (AE (λi=>TP i (AJ (Dd i 95 18)))) (AE (λi=>TP i (AK (Dd i 95 18) (HG i 95 18)))))) GQ):=by kernel_rfl
theorem CCW(x:LbS)(h:CR (prB x)):FnT Try.prog AMG (C_lBtw.xs x) (AC []) (C_lBtw.val x) []:=Dy (A:=BAT) (ren:=[]) (fz:=[]) BVB (by kernel_rfl) (AA BIH AD) (BTC x h)
theorem CLF:AH Try.prog BSO (C_Lvd.spec CIX):=PU C_Lvd (λ_=>CJQ) [] [] CPZ (λ_=>by kernel_rfl) (λ_=>AA ASU (AA AOI AD)) (λ(x:LvS) h=>by
 obtain⟨⟨h1,h2⟩,h3,h4⟩:(0<=x.s.used/\0<=(lvS1 x).used)/\(0<=x.a/\x.a<x.h.length)/\(0<=x.b/\x.b<x.h.length):=h
 show CHQ x;rw[CLU]<;> delta AK AN FI AE BA BN IQ BH DC ER NC TD Ff No FD TE TC MW ZM ZJ ZL cG wH Rk yO mH yK mE J8 CS AG AI AO AJ VW IR AS EL BG yF DK sG HD AOO EB MM DR NK GM AV gL DT RR IY sW Wr Yy HK JB Gl IA JF tU BQ Fi JL fF qU JN kK XD XC WR Zu Se iT Gd Tl aL uQ;simp only[CC,CU,CF]
 exact⟨⟨rfl,h1⟩,⟨h4,h3,h2⟩,rfl,rfl,rfl,rfl,rfl,rfl,λ_ _=>rfl,rfl,rfl⟩) (λ_=>RU rfl rfl) _
theorem CEN:AH Try.prog BDC BNS:=MC xNSp hNSp λx _=>Dy (A:=ann 15 []) (ren:=[]) (fz:=[]) CDO (by kernel_rfl) AD (by
 show BYQ x;rw[CDF]<;> delta LI Wo N4 hd7 UD CE EE BY HY fW WQ;unfold MN;by_cases h:x.s.lo<=x.n<;>simp[h])
theorem BFF:AH Try.prog AFK AST:=MC xRBd hRBd λx _=>Dy (A:=ann 50 []) (ren:=[]) (fz:=[]) CEA (by kernel_rfl) AD (by
 show BRO x;rw[CFT]<;> delta LI Wo hd7 UD aD NC Gn Dj J9 nI mA Z8 CS JA BY HY NB NW OG OJ TR WQ;rfl)
theorem CAW:AH Try.prog BAF BTK:=MC xBB2 hBB2 λx _=>Dy (A:=ann 15 [(AFK,AST)]) (ren:=[]) (fz:=[]) CEX (by kernel_rfl) (AA BFF AD) (by
 show BQB x;rw[CAQ]<;> delta LI Wo UD nI mA AAZ K8 BY HY gA;cases btM ⟨x.a.lo,x.b⟩<;>rfl)
theorem BZL:AH Try.prog V3 (C_l1Thr.spec CIZ):=PU C_l1Thr (λ_=>ann 9 []) [] [2064] BAW (λ_=>by kernel_rfl) (λ_=>AD) (λ(x:One) _=>by
 show BGN x;rw[BPQ]<;> delta AK AN AE BA BN CV KE FD TE TC Fh ZM ZJ ZL HA HR ZP AG AP AI AO AJ AR VR BO AQ XJ LF JV JX Qk AT IV EN FL SD HG LN FX qY kV Fq;simp only[CC,CU,CF]
 refine⟨by omega,λj hj=>?_⟩
 match j,hj with
 |0,_=>exact⟨rfl,rfl,rfl,rfl,rfl⟩
 |1,_=>exact⟨rfl,rfl,rfl,rfl,rfl⟩
 |2,_=>exact⟨rfl,rfl,rfl,rfl,rfl⟩) (λ_=>RU rfl rfl) _
theorem CLO:AH Try.prog ASH (C_SmI.spec S2):=PU C_SmI (λ_=>CHW) [] [] BPV (λ_=>by kernel_rfl) (λ_=>AD) (λ(x:One) _=>by
 show CJH x;rw[CNS]<;> delta LI HU BH DC ER AG DF BG EB DR DT GQ SV IC gE Br Qc Oj;decide +kernel) (λ_=>RU rfl rfl) _
theorem CBN:AH Try.prog AMG (C_Btw0.spec d_3):=Ctr.spec_ok (C:=C_Btw0) (λ(_:One) _=>by
 have:=CCW ⟨thr,0,2⟩ BHP.1
 have e:C_lBtw.val ⟨thr,0,2⟩=.tup [.d (UJ ⟨147,151⟩),.int 0]:=by show AVal.tup [.d (UJ (btwV ⟨thr,0,2⟩)),.int 0]=_;rw[BHP.2]
 rw[e] at this
 exact this) _
theorem CMX:AH Try.prog AGC (C_aw9.spec T7):=PU C_aw9 (λ_=>CJI) [] [] BKK (λ_=>by kernel_rfl) (λ_=>AA BZL (AA CBN (AA BMI (AA CEW (AA BYW (AA BSE (AA CLO AD))))))) (λ(x:One) _=>by
 show CKI x;rw[CMR]<;> delta LI Wo HU AK AN AE BA BN FD TE TC Fh ZM ZJ ZL HR Dg ZP AG AI AO AJ AR DF CM HZ ZZ MK BO AQ ABE XJ LF JV Gt JX AV Dd AT IV EN AL FL Ea Ug OZ BL YV ED YF YN CO nZ Hk FQ YZ GQ HG YH EK QP iP Sq PY Jv FX Im Dq Iw Pn Dt TP OK XL SI;simp only[CC,CU,CF]
 intro i hi
 match i,hi with
 |0,_=>rfl
 |1,_=>rfl) (λ_=>RU rfl rfl) _
end Go.Bal
