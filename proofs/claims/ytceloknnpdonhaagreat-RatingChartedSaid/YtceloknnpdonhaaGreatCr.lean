/- Law RatingCharted: its walk. -/
import Derived.Test.YtceloknnpdonhaaGreatChT8
import Derived.Test.YtceloknnpdonhaaGreatRT7
import Derived.Test.YtceloknnpdonhaaGreatRatU
import Derived.Test.YtceloknnpdonhaaGreatRatZ
import Derived.Test.YtceloknnpdonhaaGreatChWT1
set_option linter.unusedVariables false
set_option linter.unusedSimpArgs false
namespace Go.Bal
open Go Go.Sym Go.Proofs
structure CrI where
 bs:List Int
 gs:List Int
 v:Int
def crM(x:CrI):MkIQ:=⟨⟨x.bs,0,0⟩,10,true⟩
def crN(x:CrI):MkI:=⟨⟨x.gs,0,0⟩,9⟩
def eO(x:CrI):Cht:=ZP (crM x)
def crT(x:CrI):Tru:=jV (crM x)
def YD(x:CrI):List Gau:=mdG (crN x)
def crR(x:CrI):Rtg:=mdR (crN x)
def crY(x:CrI):Ln:=gD (crR x).l 0
def crW(x:CrI):Rtg:=⟨[],[crY x]⟩
def crK(x:CrI)(n:Nat):List Gau:=((YD x).take n).filter (LL (crY x))
def crO(x:CrI):List Gau:=crK x (YD x).length
def crX(x:CrI):Nat:=(sU x.v (crT x).t.length).toNat
def crV(x:CrI):Span×Int:=Gt ⟨⟨eO x,(crT x).z⟩,gD (crT x).t (crX x)⟩
def crB(x:CrI):List (Nat×HCell):=[(2096,.live (chB (eO x))),(2112,.live (.box [.d (FE (crT x).t),.d (FE (crT x).s),.d (FE (crT x).z)]))]
def crH(x:CrI):List (Nat×HCell):=crB x ++ [(3096,rtgC (crW x))]
def crS(x:CrI)(v:AVal)(k:Nat):List (Nat×AVal):=[(2,.int x.v),(7,.bptr 2096 0),(8,.bptr 2112 0),(9,.d (KZ (YD x))),(10,.bptr 3096 0),(11,v),(12,.int k)]
def cr8n(x:CrI):Shape:={ α:=Nat,dflt:=0,T:=λk=>⟨crS x (.d TE) k,crH x⟩,inv:=λk=>k<=(YD x).length/\crK x k=[],meas:=λk=>(YD x).length-k }
def cr8o(x:CrI):Shape:={ α:=GsK,dflt:=default,T:=λy=>⟨crS x (.own 303 3 0 y.l.length) y.i,crH x ++ [(303,.live (rowG y.l))]⟩,inv:=λy=>y.i<=(YD x).length/\y.l=crK x y.i,meas:=λy=>(YD x).length-y.i }
def cr9n(x:CrI)(m:Nat):Shape:={ α:=Nat,dflt:=0,T:=λk=>⟨crS x (.d TE) k,crH x⟩,inv:=λk=>k<(YD x).length/\(YD x).length-k=m/\crK x (k+1)=[],meas:=λ_=>0 }
def cr9o(x:CrI)(m:Nat)(f:List (Nat×Nat)):Shape:={ α:=GsK,dflt:=default,T:=λy=>⟨crS x (.own 303 3 0 y.l.length) y.i,crH x ++ [(303,.live (rowG y.l))]⟩,inv:=λy=>y.i<(YD x).length/\(YD x).length-y.i=m/\y.l=crK x (y.i+1),meas:=λ_=>0,first:=f }
def cr7(x:CrI):Shape:={ α:=One,dflt:=default,T:=λ_=>⟨[(2,.int x.v),(7,.bptr 2096 0),(8,.bptr 2112 0),(9,.d (KZ (YD x))),(10,.bptr 3096 0)],crH x⟩,inv:=λ_=>True,meas:=λ_=>0 }
def cr15(x:CrI):Shape:={ α:=One,dflt:=default,T:=λ_=>⟨[(2,.int x.v),(7,.bptr 2096 0),(8,.bptr 2112 0),(10,.bptr 3096 0),(11,.d (KZ (crO x)))],crH x⟩,inv:=λ_=>True,meas:=λ_=>0,ffz:=[303] }
def crLo(x:CrI):Int:=(OL 0 (crV x).1.lo).tdiv 10
def crHi(x:CrI):Int:=(OL 0 (crV x).1.hi+9).tdiv 10
def crRe(x:CrI):Int:=(OL 0 (gD (crT x).s (crX x))).tdiv 10
def cr22(x:CrI):Shape:={ α:=One,dflt:=default,T:=λ_=>⟨[(10,.bptr 3096 0),(11,.d (KZ (crO x))),(18,.int (crLo x)),(19,.int (crHi x)),(20,.int (crRe x))],[(3096,rtgC (crW x))]⟩,inv:=λ_=>crO x≠[],meas:=λ_=>0 }
def xCr(x:CrI):List AVal:=[.d (eBys x.bs),.d (eBys x.gs),.int x.v]
def A_Cr(x:CrI):Ann:={ ann 196 [(DDD,C_New.spec DKV),(CAS,(G5 true).spec (DLE true)),(CJT,C_Made.spec dMkI),(BTN,C_Passes.spec dGR),(CJR,CZD),(CBN,C_Stage.spec dCZI),(CBW,C_Flow.spec dGBt),(n_At,C_At.spec dRtI),(BXJ,CMV),(BNW,CCK),(CDG,COA)] with mt:=λid=>id==14,loops:=λid=>if id=8 then some [cr8n x,cr8o x] else none,cut:=λid=>if id=6 then some [cr7 x] else if id=15 then some [cr15 x] else if id=22 then some [cr22 x] else none,cutIn:=λgs id=>if id=9 then some [cr9n x (gs.getD 0 0),cr9o x (gs.getD 0 0) [(303,15096)],cr9o x (gs.getD 0 0) []] else none }
def V_Cr(x:CrI):Prop:=BG Try.prog (A_Cr x) ATT (AL ATT) (xCr x) (AF []) (.bool true) [] [] []
abbrev BRS:=CrI.bs
abbrev BOJ:=CrI.gs
abbrev BUJ:=MkI.mk
abbrev S2 a:=Ie a 2000
abbrev Yg a b:=Cd (crW a) b
abbrev Hd a:=oQ (crW a)
abbrev xC a b:=GBt.mk (BU (crO a)) (JN 0 (λi=>(@default Int Int.instInhabited))) (S2 b)
abbrev nN a b:=Xq (crW a) (λi=>Yg b i)
abbrev M2 a:=Ph (crW a)
abbrev Oo a:=Ly (crW a)
abbrev Us a b c d:=Ot a (M2 b) (Yg c d)
abbrev Xb a:=BI (M2 a)
abbrev G3 a:=GI (Oo a)
abbrev Xf a:=GU (Oo a)
abbrev L1 a:=Tru.t (crT a)
abbrev ASV a:=sU (CrI.v a) (ER (L1 a))
abbrev AVA a b:=Wb a (ASV b)
abbrev XG a:=Tru.s (crT a)
abbrev CAT a b:=AVA (L1 a) b
abbrev wG a b c:=Gt (CZI.mk a (CAT b c))
abbrev oW a:=Tru.z (crT a)
abbrev uQ a b:=CZ.mk a (DG (oW b))
abbrev wE a b c:=O9 (eO a) b c
abbrev mV a b:=dNt (eNt (YJ (eO a) b))
abbrev iN a:=JJ (eO a)
abbrev uL a b:=jM (iN a) (λi=>mV b i)
abbrev Si a b:=Pq (Bh (eO a)) (λi=>dMk (eMk (Vq (Bh (eO b)) i)))
abbrev Wq a:=CQ (eO a)
abbrev Wx a:=CO (eO a)
abbrev Xm a:=CP (eO a)
abbrev Xj a:=IE (eO a)
abbrev Va a:=LC (eO a)
abbrev Zj a b:=MC a (oW b)
abbrev dH a:=GU (oW a)
abbrev bP a:=GU (XG a)
abbrev cE a:=GI (L1 a)
abbrev cB a:=GU (L1 a)
abbrev AHQ a:=SJ (eO a)
abbrev aK a:=EE (eO a)
abbrev Yz a b:=VO a (eO b)
abbrev aU a:=NP (eO a)
abbrev Yb a:=AI (CrI.v a)
abbrev Qu a b:=BOA (YD a) b
abbrev uO a b c:=Cv a (crK b c)
abbrev Y9 a:=CW (YD a)
abbrev mR a:=BY (YD a)
abbrev aT a b:=QW (YD a) b
abbrev BSP a:=IS (Fl a) a
abbrev hU a b:=NX (BSP a) (YD b) (λi=>SG a i)
abbrev uR a:=DG (DG (BOJ a))
abbrev BSN a:=DG (DG (BRS a))
abbrev BPK a b:=BCN (BSN a) b b
abbrev I5 a:=jV (MkIQ.mk (BPK a 0) 10 QJ)
abbrev Xc a:=ZP (MkIQ.mk (BPK a 0) 10 QJ)
attribute [go_sem] BRS BOJ BUJ S2 Yg Hd xC nN M2 Oo Us Xb G3 Xf L1 ASV AVA XG CAT wG oW uQ wE mV iN uL Si Wq Wx Xm Xj Va Zj dH bP cE cB AHQ aK Yz aU Yb Qu uO Y9 mR aT BSP hU uR BSN BPK I5 Xc
theorem DYD(x:CrI):(V_Cr x)=(PC (BB (OD (BRS x)) (QC (BRS x)) (PI 10 10) MK (AW (BSN x) (DG (BRS x))) (Pm (AS (BSN x) (DG (BRS x))) (AI 0) (AH (StmBQ 0 (BPK x 0)) (DJ 1 10) (DJ 10 14)) MK)) (AJ (OD (BOJ x)) (QC (BOJ x)) (PI 9 9) (AW (uR x) (DG (BOJ x))) (Pm (AS (uR x) (DG (BOJ x))) (AI 0) (AH (StmB 0 (ACM (uR x) 0 0)) (DJ 1 9) (DJ 9 100)) FI)) (OK (GA (AU (kY (BUJ (ACM (uR x) 0 0) 9)))) (GA (ER (Tru.t (I5 x))))) (HM QJ) (And (HG (BC 0) (BC 1) (DJ 1 (AU (kY (BUJ (ACM (uR x) 0 0) 9)))) (ZY (λi=>NO (Yb x) (AP (CG (YD x) (mdG (BUJ (ACM (uR x) 0 0) 9))) (AT (YD x) (mdG (BUJ (ACM (uR x) 0 0) 9))) (EW (YN (eO x)) (YN (Xc x))) (EJ (YN (eO x)) (YN (Xc x))) (Rm (eO x) (Xc x)) (Qg (eO x) (Xc x)) (Sc (eO x) (Xc x)) (MY (XN (eO x)) (Xc x)) (FM (AK (λj=>Hl j (XN (eO x)) (XR (eO x) j) (Xc x) j (As (eO x) j) j)) (OC (iN x) (Xc x)) (λj=>UP j (eO x) j (NG (Xc x) j) (JI (JE (eO x) j) (Xc x) j) (PZ (JE (eO x) j) (Xc x) j) (FP (eO x) j) (FP (Xc x) j)) (AW (L1 x) (Tru.t (I5 x))) (λj=>EN j (L1 x) (Tru.t (I5 x))) (AW (XG x) (Tru.s (I5 x))) (AS (XG x) (Tru.s (I5 x))) (AW (oW x) (Tru.z (I5 x))) (Pm (AS (oW x) (Tru.z (I5 x))) (Sq (Oo x)) (LD (M2 x)) (AK (λj=>JG j (M2 x) (Yg x j) (Cd (mdR (BUJ (ACM (uR x) 0 0) 9)) (Mo j))))))) FI))) (Ru FI (HG (LA (λi=>cP (FM (Yb x) (mR x) (λj=>HO j (YD x)) AQ Ce (BS i) (Va x) (Xj x) (GT (Xm x) (Wx x) (Wq x) (aU x) (λj=>Yz j x) (aK x) (AHQ x) (cB x) (FM (cE x) (bP x) (λj=>MC j (XG x)) (dH x) (λj=>Zj j x) (Xf x) (G3 x) (Xb x) (AK (λj=>Us j x x j))))) (KQ i (YD x)) (crK x i))) (AK (λi=>NA i (Y9 x) (YP (crK x i)) (HV (YD x)) (And (RA (HG (BC (AU i)) (Rz i (GY i)) (DJ (GY i) (HV (YD x))) (EB (HY (hU i x) (BSP i)) (AK (λj=>Jg j (hU i x) (DI (YD x) (SG i j)) (YD x) (SG i j))) (AW (Hd x) (Oo x)) (AS (Hd x) (Oo x)) (AR (nN x x) (M2 x)) (λj=>JG j (nN x x) (Xh (crW x) (λk=>Yg x k) j) (Yg x j)) (Cs (CW (hU i x))) (Hb (Hd x)) (Cs (nN x x)))) (fY (GR.mk (hU i x) (Ex (Hd x) (crW x) (λj=>Yg x j)))) (HM QJ) (Fw (GA (ER (Y0 (GR.mk (hU i x) (Ex (Hd x) (crW x) (λj=>Yg x j)))))) (BB (Cm i (YD x)) (Hg 3) vP Ir Hf (UQ 24)) (Vh (λj=>Gu (AH (Yb x) (mR x) (AP (BR (YD x)) AQ (gN j) (CN (BX j) i) (Va x) (Xj x) (Xm x) (Wx x) (FM (Wq x) (aU x) (λk=>Yz k x) (aK x) (λk=>OA k (eO x)) (cB x) (cE x) (bP x) (FM (GI (XG x)) (dH x) (λk=>Zj k x) (Xf x) (λk=>MC k (Oo x)) (Xb x) (AK (λk=>Us k x x k)) (gN j) (AK (λk=>Jg k (HU j) (DI (YD x) i) (YD x) i)))))) (dM j (YD x)) (Qu x j) (aT x i) (uO j x (bI j)))) (LA (λj=>Gu (FM (Yb x) (mR x) (λk=>HO k (YD x)) AQ Ce (CN j i) (Va x) (Xj x) (GT (Xm x) (Wx x) (Wq x) (aU x) (λk=>Yz k x) (aK x) (AHQ x) (cB x) (FM (cE x) (bP x) (λk=>MC k (XG x)) (dH x) (λk=>Zj k x) (Xf x) (G3 x) (Xb x) (AK (λk=>Us k x x k))))) (VF j (YD x)) (aT x j) (aT x i) (YP (crK x (JF j))))))) (It (AK (λj=>BO (cP (VF j (YD x)) (AR (aT x j) (aT x i)) (crK x (JF j))) (LA (λk=>Ki (FM (Yb x) (mR x) (λl=>HO l (YD x)) AQ Ce (AV k j) (Va x) (Xj x) (GT (Xm x) (Wx x) (Wq x) (aU x) (λl=>Yz l x) (aK x) (AHQ x) (cB x) (FM (cE x) (bP x) (λl=>MC l (XG x)) (dH x) (λl=>Zj l x) (Xf x) (G3 x) (Xb x) (AK (λl=>Us l x x l))))) k (Y9 x) (YP (crK x k)) (aT x k) (aT x i))))) (C1 (λj=>BO (AH (dM j (YD x)) (AR (Qu x j) (aT x i)) (uO j x (bI j))) (Vh (λk=>Ki (AH (Yb x) (mR x) (AP (BR (YD x)) AQ (Qj k j) (AV (BX k) (BX j)) (Va x) (Xj x) (Xm x) (Wx x) (FM (Wq x) (aU x) (λl=>Yz l x) (aK x) (λl=>OA l (eO x)) (cB x) (cE x) (bP x) (FM (GI (XG x)) (dH x) (λl=>Zj l x) (Xf x) (λl=>MC l (Oo x)) (Xb x) (AK (λl=>Us l x x l)) (Qj k j) (AT (HU k) (HU j)))))) (BX k) (Y9 x) (uO k x (BX k)) (Qu x k) (aT x i))))))) (ZY (λj=>NO (Yb x) (Z4 (gX (crO x)) (Va x) (Xj x) (GT (Xm x) (Wx x) (Wq x) (aU x) (λk=>Yz k x) (aK x) (AHQ x) (cB x) (FM (cE x) (bP x) (λk=>MC k (XG x)) (dH x) (λk=>Zj k x) (Xf x) (G3 x) (Xb x) (AK (λk=>Us k x x k))))) FI)))) (C1 (λi=>NA (BX i) (Y9 x) (uO i x (BX i)) (HV (YD x)) (And (RA (HG (BC (AU (BX i))) (Rz (BX i) (GY (BX i))) (DJ (GY (BX i)) (HV (YD x))) (EB (HY (hU (BX i) x) (BSP (BX i))) (AK (λj=>Jg j (hU (BX i) x) (DI (YD x) (SG (BX i) j)) (YD x) (SG (BX i) j))) (AW (Hd x) (Oo x)) (AS (Hd x) (Oo x)) (AR (nN x x) (M2 x)) (λj=>JG j (nN x x) (Xh (crW x) (λk=>Yg x k) j) (Yg x j)) (Cs (CW (hU (BX i) x))) (Hb (Hd x)) (Cs (nN x x)))) (fY (GR.mk (hU (BX i) x) (Ex (Hd x) (crW x) (λj=>Yg x j)))) (HM QJ) (Fw (GA (ER (Y0 (GR.mk (hU (BX i) x) (Ex (Hd x) (crW x) (λj=>Yg x j)))))) (BB (Cm (BX i) (YD x)) (And (BY (HU i)) (GQ 0 (HU i) hZ)) vP Fp (RV (Uu i)) (UQ (Me (Uu i) 24))) (Vh (λj=>Gu (AH (Yb x) (mR x) (AP (BR (YD x)) AQ (iP j i) (CN (BX j) (BX i)) (Va x) (Xj x) (Xm x) (Wx x) (FM (Wq x) (aU x) (λk=>Yz k x) (aK x) (λk=>OA k (eO x)) (cB x) (cE x) (bP x) (FM (GI (XG x)) (dH x) (λk=>Zj k x) (Xf x) (λk=>MC k (Oo x)) (Xb x) (AK (λk=>Us k x x k)) (iP j i) (AK (λk=>Vj k (HU j) k (Ke k i (Zu i k) (DI (YD x) (BX i))) (Ke k i (DZ (HU i) k) (DZ (YD x) (BX i))) (Ke k i (DY (HU i) k) (DY (YD x) (BX i))))))))) (dM j (YD x)) (Qu x j) (Qu x i) (uO j x (bI j)))) (Vh (λj=>Gu (AH (Yb x) (mR x) (AP (BR (YD x)) AQ (Qj j i) (CN (BX j) (BX i)) (Va x) (Xj x) (Xm x) (Wx x) (FM (Wq x) (aU x) (λk=>Yz k x) (aK x) (λk=>OA k (eO x)) (cB x) (cE x) (bP x) (FM (GI (XG x)) (dH x) (λk=>Zj k x) (Xf x) (λk=>MC k (Oo x)) (Xb x) (AK (λk=>Us k x x k)) (Qj j i) (AT (HU j) (HU i)))))) (dM j (YD x)) (Qu x j) (Qu x i) (uO j x (bI j)))))) (It (AK (λj=>BO (cP (VF j (YD x)) (AR (aT x j) (Qu x i)) (crK x (JF j))) (LA (λk=>Ki (FM (Yb x) (mR x) (λl=>HO l (YD x)) AQ Ce (AV k j) (Va x) (Xj x) (GT (Xm x) (Wx x) (Wq x) (aU x) (λl=>Yz l x) (aK x) (AHQ x) (cB x) (FM (cE x) (bP x) (λl=>MC l (XG x)) (dH x) (λl=>Zj l x) (Xf x) (G3 x) (Xb x) (AK (λl=>Us l x x l))))) k (Y9 x) (YP (crK x k)) (aT x k) (Qu x i))))) (C1 (λj=>BO (AH (dM j (YD x)) (AR (Qu x j) (Qu x i)) (uO j x (bI j))) (Vh (λk=>Ki (AH (Yb x) (mR x) (AP (BR (YD x)) AQ (Qj k j) (AV (BX k) (BX j)) (Va x) (Xj x) (Xm x) (Wx x) (FM (Wq x) (aU x) (λl=>Yz l x) (aK x) (λl=>OA l (eO x)) (cB x) (cE x) (bP x) (FM (GI (XG x)) (dH x) (λl=>Zj l x) (Xf x) (λl=>MC l (Oo x)) (Xb x) (AK (λl=>Us l x x l)) (Qj k j) (AT (HU k) (HU j)))))) (BX k) (Y9 x) (uO k x (BX k)) (Qu x k) (Qu x i))))))) (ZY (λj=>HG (Yb x) (uB (crO x) i) (AJ (KQ (BP (xM i)) (HU i)) (AK (λk=>Jg k (crO x) (Zu i (BP k)) (HU i) (BP k))) (Va x) (Xj x) (GT (Xm x) (Wx x) (Wq x) (aU x) (λk=>Yz k x) (aK x) (AHQ x) (cB x) (FM (cE x) (bP x) (λk=>MC k (XG x)) (dH x) (λk=>Zj k x) (Xf x) (G3 x) (Xb x) (AK (λk=>Us k x x k))))) FI)))) (Ip (λi=>EC FI (GA (HV (crO x))) MK (PC (HX (CE (ASV x) (ER (L1 x))) (Va x) (Xj x) (Xm x) (Wx x) (Wq x) (MY (Iz (Si x x)) (eO x)) (FM (AK (λj=>Hl j (Iz (Si x x)) (WK (Si x x) j) (eO x) j (WF (Si x x) j) j)) (OC (aS (iN x) (λj=>mV x j)) (eO x)) (λj=>QZ j (aS (iN x) (λk=>mV x k)) (PY (Kv (iN x) (λk=>mV x k) j) (eO x) j) (JI (NU (Kv (iN x) (λk=>mV x k) j)) (eO x) j) (NU (Kv (iN x) (λk=>mV x k) j)) (eO x) (RO (Kv (iN x) (λk=>mV x k) j) (FP (eO x) j)) (QD (Kv (iN x) (λk=>mV x k) j) (FP (eO x) j))) (OD (oW x)) (λj=>EN j (DG (oW x)) (oW x)) (AI (CAT x x)) (BD (Iz (Si x x))) (BD (aS (iN x) (λj=>mV x j))) (Aw (oW x)))) (And (GC (not (PK (jH (wG (uQ (wE x (Si x x) (uL x x)) x) x x)))) (Tb (ASV x) (XG x))) (GC (not (OK (PK (jH (wG (uQ (wE x (Si x x) (uL x x)) x) x x))) (JD (AVA (XG x) x) (dG (wG (uQ (wE x (Si x x) (uL x x)) x) x x))))) (Tb (ASV x) (XG x)))) (OK (OK (PK (jH (wG (uQ (wE x (Si x x) (uL x x)) x) x x))) (JD (AVA (XG x) x) (dG (wG (uQ (wE x (Si x x) (uL x x)) x) x x)))) (Pp (AVA (XG x) x) (FL (oX (wG (uQ (wE x (Si x x) (uL x x)) x) x x))))) (HM QJ) (NO (AY (VD 10) (VD 10) (Tb (ASV x) (XG x)) (Kt (UH 10))) (Kl (DC (BY (crO x)) (BR (crO x)) (AO (crLo x) (aE (zZ 0 (dG (wG (uQ (wE x (Si x x) (uL x x)) x) x x))) 10)) (AO (crHi x) (aE (DK (zZ 0 (FL (oX (wG (uQ (wE x (Si x x) (uL x x)) x) x x)))) 9) 10)) (AO (crRe x) (aE (zZ 0 (AVA (XG x) x)) 10)) (Xf x) (G3 x) (Xb x) (λj=>Us j x x j)) (Ow (YP (crO x)))) (Ru (Ow (YP (crO x))) (AY (AH (CY (crO x)) (DD (crO x)) (Z4 AQ (AI (S2 (crLo x))) (And (BD (OE (crO x))) (BD 0)) FI)) (AH (CY (crO x)) (DD (crO x)) (Z4 AQ (AI (S2 (crHi x))) (And (BD (OE (crO x))) (BD 0)) FI)) (FT (AW (Hd x) (Oo x)) (AS (Hd x) (Oo x)) (AR (nN x x) (M2 x)) (AK (λj=>JG j (nN x x) (Xh (crW x) (λk=>Yg x k) j) (Yg x j))) (AI (S2 (crRe x))) (Hb (Hd x)) (Cs (nN x x))) (TU QJ (Hn (Hn (HJ (HJ (HJ (HJ (GA (Pf (xC x (crLo x)))) (GA (Pf (xC x (crHi x))))) (GA (atE (ABP (Ex (Hd x) (crW x) (λj=>Yg x j)) (S2 (crRe x)))))) (sndM (Bnd.mk (ZX (Mg (xC x (crLo x)))) (Aa (Mg (xC x (crLo x))))))) (sndM (Bnd.mk (ZX (Mg (xC x (crHi x)))) (Aa (Mg (xC x (crHi x))))))) (belM (atM (ABP (Ex (Hd x) (crW x) (λj=>Yg x j)) (S2 (crRe x)))) (ZX (Mg (xC x (crLo x)))))) (belM (Aa (Mg (xC x (crHi x)))) (atM (ABP (Ex (Hd x) (crW x) (λj=>Yg x j)) (S2 (crRe x)))))) QJ))))))))))):=by kernel_rfl
theorem DLX(x:CrI):Gt ⟨⟨eO x,(crT x).z⟩,gD (crT x).t (crX x)⟩=crV x:=by unfold crV;rfl
theorem DVJ(x:CrI):(sU x.v ((crT x).t.length:Int)).toNat=crX x:=by unfold crX;rfl
theorem DDB(r:Rtg):Rtg.mk r.b r.l=r:=rfl
theorem CUN(c:Cht):Cht.mk c.p c.base c.scale c.off c.ms c.ns=c:=rfl
theorem DPZ:(KA 0 λ_=>(default:Int))=[]:=rfl
theorem DSO(x:CrI):MkIQ.mk ⟨x.bs,0,0⟩ 10 true=crM x:=by unfold crM;rfl
theorem DRU(x:CrI):MkI.mk ⟨x.gs,0,0⟩ 9=crN x:=by unfold crN;rfl
theorem CZU(x:CrI):ZP (crM x)=eO x:=by unfold eO;rfl
theorem DBL(x:CrI):jV (crM x)=crT x:=by unfold crT;rfl
theorem DRM(x:CrI):mdG (crN x)=YD x:=by unfold YD;rfl
theorem DSH(x:CrI):mdR (crN x)=crR x:=by unfold crR;rfl
theorem DGQ(s:Span):Span.mk s.lo s.hi=s:=rfl
theorem CZR(b:Bnd):Bnd.mk b.lo b.hi=b:=rfl
theorem BYI{k:Nat}(h:k<1000):IntKind.i64.wrap ((k:Int)+1)=((k+1:Nat):Int):=by rw[JC (by omega) (by omega)];omega
theorem BEB{x:CrI}{k:Nat}(h:k<(YD x).length):crK x (k+1)=if LL (crY x) (gD (YD x) k)=true then crK x k ++ [gD (YD x) k] else crK x k:=by
 unfold crK
 rw[WX h,List.filter_append]
 by_cases hp:LL (crY x) (gD (YD x) k)=true
 ·rw[if_pos hp,List.filter_cons_of_pos hp];rfl
 ·rw[if_neg hp,List.filter_cons_of_neg hp];simp
theorem CQL(x:CrI)(k:Nat):(crK x k).length<=(YD x).length:=by
 unfold crK
 exact Nat.le_trans (List.length_filter_le _ _) (List.length_take_le' _ _)
theorem DWS(x:CrI):gD (crW x).l 0=gD (crR x).l 0:=by unfold crW crY;rfl
theorem DUT{c:Cht}{z:List Int}(h:ChOk c)(hz:okZ ⟨c,z⟩=true):z.length<=40:=by
 have hm:=h.m
 obtain⟨q1,q2⟩:=(CPW (a:=⟨c,z⟩) hm).1 hz
 dsimp only at q1 q2
 rcases DFJ q2 (a:=0) (b:=40) (λg hg=>by have:=q1 g hg;omega) with q | q
 ·omega
 ·rw[q];decide
theorem DXH{x:CrI}(h:MadeF (crM x))(hk:crX x<(eO x).ms.length):(crV x).2=0/\((crV x).1.lo<=gD (crT x).s (crX x)/\gD (crT x).s (crX x)<=(crV x).1.hi) /\ -3000000<=(crV x).1.lo/\(crV x).1.hi<=3000000:=by
 have q:=CJC h (show crX x<(ZP (crM x)).ms.length from hk)
 rw[CZU,DBL,DLX] at q;exact q
theorem DPY{a b c:Int}(h1:a<=b)(h2:b<=c)(h3:-3000000<=a)(h4:c<=3000000):(OL 0 a).tdiv 10=IntKind.i64.wrap ((OL 0 a).tdiv 10)/\(OL 0 c+9).tdiv 10=IntKind.i64.wrap ((IntKind.i64.wrap (OL 0 c+9)).tdiv 10)/\(0<=(OL 0 a).tdiv 10/\(OL 0 a).tdiv 10<=(OL 0 b).tdiv 10)/\(OL 0 b).tdiv 10<=(OL 0 c+9).tdiv 10/\(OL 0 b).tdiv 10=IntKind.i64.wrap ((OL 0 b).tdiv 10)/\True:=by
 have x1:=AJY 0 a
 have x2:=AJY 0 b
 have x3:=AJY 0 c
 generalize OL 0 a=p at *
 generalize OL 0 b=q at *
 generalize OL 0 c=r at *
 rw[JC (show _<=r+9 by omega) (by omega),Int.tdiv_eq_ediv_of_nonneg (show 0<=p by omega),Int.tdiv_eq_ediv_of_nonneg (show 0<=q by omega),Int.tdiv_eq_ediv_of_nonneg (show 0<=r+9 by omega),JC (show _<=p / 10 by omega) (by omega),JC (show _<=q / 10 by omega) (by omega),JC (show _<=(r+9) / 10 by omega) (by omega)]
 exact⟨rfl,rfl,⟨by omega,by omega⟩,by omega,rfl,trivial⟩
set_option maxHeartbeats 1000000 in
theorem p_Cr(x:CrI)(hb:okBy x.bs)(hg:okBy x.gs):V_Cr x:=by
 rw[DYD]<;> delta JB hd5 Oz EM FL ZF NE NU XB AR AK BO CI AO AU UH EA DV JD DJ DX OP zZ IS Iz Bh YN Kz Rn Pz Vq Hc Av Gh jM LA FI Cu QJ Pp FZ SG Gi PS Pg BN BJ JN ZY Ip Me tC oX jH BCN EY GW FC GF GD HB ZX Aa CW FX JY NK Ly BLB Vh HU BX C1 Mg ACM fY ABP BRS BOJ BUJ AH LY NX YJ LX NY AJ JJ AZ EV Pq AI DG It BU BI FJ Pm Z4 DK AP DI mY DY HA BZ ED BC DZ IZ EZ W7 DN GQ JE Cd JA JF FQ FP HE ER HT EJ EW ID HC EU AW QL WK Dh HY AQ NG BP GT GY HL UW WF GU AY Ph XN CG SE IE oQ Yg GV IA Gk BY BB CK JZ HV KC VB VQ LC BD DR XR iE YO CE FG EN KJ GH OH QW Mm MW Ce SB YZ As EE EC AV L1 AS CQ CO CP DO Rv BF ES FU FM GC KQ FF Vj MC GM HO Jg NB VF FW BR ZK CN GJ GI CR Az CX HJ Ji JI QD Wb OC oW AT PZ RO DC NP ZI Bo UQ Fb XG Oo BS Xh DD CY OA PY M2 Rz Xl xA HG OE SJ Jr HP MK EB BOA Cs BSN Am Ot QZ VO Ha LD PI Xq GA Fl Kv BPK Cv FT YP Ow PK HM Aq Jq Ht HX NO MY RV Fp iN Je Hd OD O9 El xM Hf OK dG JG UP ASV mV uB aS Bc Uu Ir AUV Ex QC Hl NA Ev Qu AVA Xm Xf Xb Yb Xc Hg Wx S2 PC RA Qj Cm Hb BSP Wq cE Mo Si Va bP TU Zj aT Aw Xj aU dH VD Us Ke aK cB dM Kl Kt mR Yz bI Gu Fw Sq CAT Hn Tb aE Ru uR kY cP nN hU Zu uQ G3 I5 Ki wG wE uO uL iP AHQ Sc Y9 vP hZ gN gX Qg Rm xC
 simp only[CCQ,eq_self,implies_true,forall_const,CVS,DON,DLS,DNM,Int.ofNat_lt,DSO,DRU,CZU,DBL,DRM,DSH,DVJ,CUN,DLX,DPZ,DGQ,CZR,DDB]
 have hp1:AJS (crM x):=CZX hb ⟨by omega,by omega⟩
 have hp2:preM (crN x):=⟨⟨⟨Int.le_refl _,Int.le_refl _⟩,⟨Int.le_refl _,by show (0:Int)<251;omega⟩,hg⟩,by show (1:Int)<=9/\(9:Int)<=100;omega⟩
 have hF:MadeF (crM x):=DVG hp1
 obtain⟨hR,hGl⟩:=CRR hp2
 have hR:Fits (YD x) (crR x):=hR
 have hG:(YD x).length<=9:=hGl
 have hl:=hR.lines
 have oY:RF (crY x):=hR.rise _ (HI (show 0<(crR x).l.length by omega))
 obtain⟨⟨c1,c2⟩,c3,c4,c5⟩:=hF.len
 have c1:1<=(eO x).ms.length:=c1
 have c2:((eO x).ms.length:Int)<=10:=c2
 have c3:(crT x).t.length=(eO x).ms.length:=c3
 have c4:(crT x).s.length=(eO x).ms.length:=c4
 have c5:(eO x).ns.length<=(eO x).ms.length:=c5
 have c6:(crT x).z.length<=1000:=Nat.le_trans (DUT hF.ok hF.z) (by decide)
 have pX:=DKJ x.v (n:=((crT x).t.length:Int)) (by omega)
 have kX:crX x<(eO x).ms.length:=by unfold crX;omega
 obtain⟨m1,⟨m2,m3⟩,m4,m5⟩:=DXH hF kX
 have s1:∀k,k<(YD x).length->(KA ((IntKind.i64.wrap ((k:Int)+1)).toNat-k) λi=>gD (YD x) (k+i))=[gD (YD x) k]:=λk hk=>by
  rw[BYI (show k<1000 by omega),Int.toNat_natCast,Nat.add_sub_cancel_left];rfl
 have pa:∀k,k<(YD x).length->X7 ⟨[gD (YD x) k],crW x⟩=0/\(Y0 ⟨[gD (YD x) k],crW x⟩=[]↔LL (crY x) (gD (YD x) k)=true):=λk hk=>DHN (hR.ok _ (HI hk)) oY
 have sl:∀k,k<(YD x).length->(0<=(k:Int)/\(k:Int)<=IntKind.i64.wrap ((k:Int)+1)/\IntKind.i64.wrap ((k:Int)+1)<=((YD x).length:Int))/\((∀i,i<(IntKind.i64.wrap ((k:Int)+1)).toNat-k->(gD [gD (YD x) k] i).st=(gD (YD x) (k+i)).st/\(gD [gD (YD x) k] i).lo=(gD (YD x) (k+i)).lo/\(gD [gD (YD x) k] i).hi=(gD (YD x) (k+i)).hi)/\(IntKind.i64.wrap ((k:Int)+1)).toNat-k<1073741824/\(crW x).b.length<1073741824/\(crW x).l.length<1073741824):=λk hk=>by
  rw[BYI (show k<1000 by omega),Int.toNat_natCast,Nat.add_sub_cancel_left]
  refine⟨⟨by omega,by omega,by omega⟩,λi hi=>?_,by omega,by show 0<_;omega,by show 1<_;omega⟩
  obtain rfl:i=0:=by omega
  exact⟨rfl,rfl,rfl⟩
 have cn:∀k:Nat,∀j:Nat,j<(YD x).length/\(YD x).length-j=(YD x).length-k/\crK x (j+1)=[]->∃a:Nat,(a:Int)=IntKind.i64.wrap ((j:Int)+1)/\(a<=(YD x).length/\crK x a=[])/\(YD x).length-a<(YD x).length-k:=λk j h=>⟨j+1,(BYI (by omega)).symm,⟨h.1,h.2.2⟩,by omega⟩
 have co:∀k:Nat,∀y:GsK,y.i<(YD x).length/\(YD x).length-y.i=(YD x).length-k/\y.l=crK x (y.i+1)->∃a:GsK,(a.l.length=y.l.length/\(a.i:Int)=IntKind.i64.wrap ((y.i:Int)+1)/\a.l.length=y.l.length/\∀i:Nat,i<a.l.length->(gD a.l i).st=(gD y.l i).st/\(gD a.l i).lo=(gD y.l i).lo/\(gD a.l i).hi=(gD y.l i).hi)/\(a.i<=(YD x).length/\a.l=crK x a.i)/\(YD x).length-a.i<(YD x).length-k:=λk y h=>⟨⟨y.i+1,y.l⟩,⟨rfl,(BYI (by omega)).symm,rfl,λ_ _=>⟨rfl,rfl,rfl⟩⟩,⟨h.1,h.2.2⟩,by show _-(y.i+1)<_;omega⟩
 have nz:(bif (((crR x).l.length:Int)==0) then true else (((crT x).t.length:Int)==0))=false:=by
  rw[show (((crR x).l.length:Int)==0)=false by rw[beq_eq_false_iff_ne];omega,show (((crT x).t.length:Int)==0)=false by rw[beq_eq_false_iff_ne];omega];rfl
 rw[nz]
 refine⟨⟨rfl,hp1⟩,⟨rfl,hp2⟩,λhc=>(by cases hc),λ_=>⟨⟨⟨by omega,by omega,by omega⟩,default,rfl,rfl,rfl,λi hi=>?_⟩,⟨⟨0,rfl,Nat.zero_le _,rfl⟩,λk ⟨k1,k2⟩=>⟨λhlt=>?_,λhge=>⟨default,?_⟩⟩,λy ⟨y1,y2⟩=>⟨λhlt=>?_,λhge=>⟨default,?_⟩⟩⟩,λh0=>?_⟩⟩
 ·obtain rfl:i=0:=by have h1:i<1:=hi;omega
  rw[DWS,show Int.toNat 0+0=0 from rfl]
  exact⟨rfl,rfl,rfl,rfl⟩
 ·rw[s1 k hlt,(pa k hlt).1]
  refine⟨⟨sl k hlt,λhc=>(by cases hc),λ_=>⟨λhc=>⟨⟨⟨by omega,hlt⟩,λh=>(by omega),by omega,by omega,by omega,by omega⟩,⟨k,[gD (YD x) k]⟩,⟨rfl,rfl,rfl,λi hi=>?_⟩,hlt,rfl,?_⟩,λhc=>⟨k,rfl,hlt,rfl,?_⟩⟩⟩,cn k,co k⟩
  ·obtain rfl:i=0:=by have h1:i<1:=hi;omega
   exact⟨rfl,rfl,rfl⟩
  ·have hp:=(pa k hlt).2.1 (List.eq_nil_of_length_eq_zero (by simpa using hc))
   show [gD (YD x) k]=crK x (k+1);rw[BEB hlt,if_pos hp,k2];rfl
  ·rw[BEB hlt,if_neg (λh=>by rw[(pa k hlt).2.2 h] at hc;cases hc)];exact k2
 ·have e:crO x=crK x k:=by unfold crO;rw[show (YD x).length=k by omega]
  rw[e,k2];rfl
 ·have hyl:=CQL x y.i
  rw[<-y2] at hyl
  rw[s1 y.i hlt,(pa y.i hlt).1]
  refine⟨⟨sl y.i hlt,λhc=>(by cases hc),λ_=>⟨λhc=>⟨⟨⟨by omega,hlt⟩,by omega,λh=>(by cases h),by omega,by omega⟩,⟨y.i,y.l ++ [gD (YD x) y.i]⟩,⟨by simp,rfl,by simp,CGD _ _⟩,hlt,rfl,?_⟩,λhc=>⟨y,⟨rfl,rfl,rfl,λ_ _=>⟨rfl,rfl,rfl⟩⟩,hlt,rfl,?_⟩⟩⟩,cn y.i,co y.i⟩
  ·have hp:=(pa y.i hlt).2.1 (List.eq_nil_of_length_eq_zero (by simpa using hc))
   show y.l ++ [gD (YD x) y.i]=crK x (y.i+1);rw[BEB hlt,if_pos hp,y2]
  ·rw[BEB hlt,if_neg (λh=>by rw[(pa y.i hlt).2.2 h] at hc;cases hc)];exact y2
 ·have e:crO x=y.l:=by rw[y2];unfold crO;rw[show (YD x).length=y.i by omega]
  rw[e];exact⟨rfl,Nat.le_refl _,λ_ _=>⟨rfl,rfl,rfl⟩⟩
 ·have hne:(crO x).length≠0:=by simpa using h0
  have hOl:(crO x).length<=9:=Nat.le_trans (CQL x _) hG
  have pS:0<=sU x.v ((crT x).t.length:Int)/\sU x.v ((crT x).t.length:Int)<((crT x).s.length:Int):=by omega
  obtain⟨n1,n2,n3,n4,n5,n6⟩:=DPY m2 m3 m4 m5
  have n3:0<=crLo x/\crLo x<=crRe x:=n3
  have n4:crRe x<=crHi x:=n4
  have hc:GN (crO x)=0:=BAV ⟨by omega,by omega⟩ λg hg=>by
   unfold crO crK at hg
   exact hR.ok _ (List.mem_of_mem_take (List.mem_filter.1 hg).1)
  have hq:(TK (crY x)).passes (crO x):=CXC oY
  have b1:=ACX (crLo x) 2000
  have b2:=ACX (crRe x) 2000
  have b3:=ACX (crHi x) 2000
  obtain⟨⟨f1,f2,_,f4⟩,a1,a2,a3,_⟩:=CUS hc oY hq (s:=Ie (crLo x) 2000) (t:=Ie (crRe x) 2000) (by omega) (by omega)
  obtain⟨⟨g1,_,g3,g4⟩,_,_,_,a4⟩:=CUS hc oY hq (s:=Ie (crHi x) 2000) (t:=Ie (crRe x) 2000) (by omega) (by omega)
  have eW:crW x=⟨[],[crY x]⟩:=rfl
  rw[m1,decide_eq_false (show ¬gD (crT x).s (crX x)<(crV x).1.lo by omega),decide_eq_false (show ¬gD (crT x).s (crX x)>(crV x).1.hi by omega)]
  refine⟨⟨pX,by omega,by omega,by omega⟩,⟨λ_=>pS,λ_=>pS⟩,λhc=>(by cases hc),λ_=>⟨⟨⟨by omega,by omega,pS,λh=>(by cases h)⟩,default,⟨n1,n2,n5⟩,λh=>hne (by rw[h];rfl)⟩,λ_=>⟨⟨by omega,by omega⟩,⟨by omega,by omega⟩,⟨by show 0<_;omega,by show 1<_;omega⟩,?_⟩⟩⟩
  rw[eW,f1,g1,a1,f4,g4,(BZR a2 f2).2 (a3 (by omega)),(BZR g3 a2).2 (a4 (by omega))]
  rfl
theorem DWU(x:CrI)(hb:okBy x.bs)(hg:okBy x.gs):FnT Try.prog BOI (xCr x) (AF []) (.bool true) []:=Mj (A:=A_Cr x) (ren:=[]) (fz:=[]) CFO (by kernel_rfl) (AB DRR (AB CUI (AB DGV (AB CTR (AB DKE (AB CWI (AB COG (AB DXF (AB CXV (AB CGP (AB DEJ AG))))))))))) (p_Cr x hb hg)
end Go.Bal
