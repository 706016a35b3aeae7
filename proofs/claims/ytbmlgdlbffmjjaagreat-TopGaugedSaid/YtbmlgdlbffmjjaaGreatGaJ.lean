/- TopGauged: copies, lines, bounds, the examples. -/
import Derived.Test.YtbmlgdlbffmjjaaGreatGaI
import Derived.Test.YtbmlgdlbffmjjaaGreatGaV
import Derived.Test.YtbmlgdlbffmjjaaGreatRatU
set_option linter.unusedVariables false
set_option linter.unusedSimpArgs false
set_option maxRecDepth 8000
namespace Go.Bal
open Go Go.Sym Go.Proofs
def BAN:List AVal->Heap->Option (List Lin×List (Nat×Nat)×List Nat)
 |[.d (.list _ n f _)],_=>some (VZ n λj=>tQ (f j),[],[])
 |_,_=>none
structure LvS where
 s:Stm
 h:List Int
 a:Int
 b:Int
 d:Int
def yY(x:LvS):Int:=fT x.s 9
def lvS1(x:LvS):Stm:=mX x.s 9
def lvR(x:LvS):Int:=wr (wr (gD x.h x.b.toNat-gD x.h x.a.toNat)+witV (lvS1 x) (wr (-(yY x))) (yY x))
def lvL(x:LvS):Lin:=⟨x.a,x.b,x.d,lvR x,yY x⟩
def lvS(x:LvS):Stm:=witS (lvS1 x) (wr (-(yY x))) (yY x)
def C_Lvd:Ctr:={ α:=LvS,xs:=λx=>[.bptr 100 0,.d (II x.h),.int x.a,.int x.b,.int x.d],L:=λx=>[(100,stmO x.s)],val:=λx=>.d (eLin (lvL x)),keep:=λx=>[(100,stmH (lvS x))],pre:=λx=>[(0<=x.s.used/\0<=(lvS1 x).used)/\(0<=x.a/\x.a<x.h.length)/\(0<=x.b/\x.b<x.h.length)] }
def CKS:List AVal->Heap->Option (LvS×List (Nat×Nat)×List Nat)
 |[.bptr p _,.d (.list _ n g _),.d (.v (.int .i64 a)),.d (.v (.int .i64 b)),.d (.v (.int .i64 d))],H=>match BCQ H p with
  |some s=>some (⟨s,VZ n λi=>LO (g i),a,b,d⟩,[(100,p)],[])
  |none=>none
 |_,_=>none
def CIE:Ann:={ ann 37 [(AIV,C_Next.spec AUW),(J7,C_Within.spec AIA)] with E:=[100] }
def CHL(x:LvS):Prop:=AX Try.prog CIE BWI (AF BWI) (C_Lvd.xs x) (AC (C_Lvd.L x)) (C_Lvd.val x) (C_Lvd.keep x) [] []
abbrev H4:=LvS.s
abbrev qD a b c:=mH (gP a) b c
abbrev kL a:=kI (H4 a) 9
abbrev vX a:=Tk (kL a)
abbrev Ze a:=fJ (H4 a) 9
attribute [go_sem] H4 qD kL vX Ze
theorem COI(x:LvS):(CHL x)=(AG (AV (JX 9 9) (WG (H4 x)) (Gl (H4 x)) (WL (H4 x)) (WX (H4 x)) (Sk (H4 x))) (AS (DT (LvS.b x) (FI (LvS.h x))) (DT (LvS.a x) (FI (LvS.h x))) (AJ (vX x)) (AJ (kL x)) (WG (Ze x)) (Gl (Ze x)) (WL (Ze x)) (WX (Ze x)) (Sk (Ze x))) (AS (AK (TC (lvL x)) (LvS.a x)) (AK (TK (lvL x)) (LvS.b x)) (AK (ZN (lvL x)) (LvS.d x)) (AK (ZK (lvL x)) (DN (IV (Zj (LvS.h x) (LvS.b x)) (Zj (LvS.h x) (LvS.a x))) (mA (gP (Ze x)) (vX x) (kL x)))) (AK (ZM (lvL x)) (kL x)) (HL (lvS x) (qD (Ze x) (vX x) (kL x))) (JM (lvS x) (qD (Ze x) (vX x) (kL x))) (JF (lvS x) (qD (Ze x) (vX x) (kL x))) (JD (lvS x) (qD (Ze x) (vX x) (kL x))))):=by kernel_rfl
structure NSp where
 n:Int
 s:Span
def xNSp(x:NSp):List AVal:=[.int x.n,.d (UJ x.s)]
def dNSp:List AVal->Option NSp
 |[.d (.v (.int .i64 n)),.d (.agg [.v (.int .i64 a),.v (.int .i64 b)])]=>some ⟨n,⟨a,b⟩⟩
 |_=>none
theorem hNSp(xs:List AVal)(a:NSp)(h:dNSp xs=some a):xs=xNSp a:=by
 unfold dNSp at h;split at h<;>cases h;rfl
def BUZ:=pD dNSp λx=>.bool (MN x.n x.s.lo x.s.hi)
def BSF(x:NSp):Prop:=AX Try.prog (ann 15 []) BCV (AF BCV) (xNSp x) (AC []) (.bool (MN x.n x.s.lo x.s.hi)) [] [] []
abbrev eZ a b c:=MN a b (EE c)
attribute [go_sem] eZ
theorem CBW(x:NSp):(BSF x)=(XE (eZ (NSp.n x) (CE (NSp.s x)) (NSp.s x)) (G4 (NSp.n x) (CE (NSp.s x))) (NSp.n x) (EE (NSp.s x))):=by kernel_rfl
structure RBd where
 q:Rt
 b:Bnd
def xRBd(x:RBd):List AVal:=[.d (eRt x.q),.d (eBnd x.b)]
def dRBd:List AVal->Option RBd
 |[.d (.agg [.v (.int .i64 n),.v (.int .i64 d)]),.d (.agg [.v (.int .i64 a),.v (.int .i64 b),.v (.int .i64 c),.v (.int .i64 e)])]=>some ⟨⟨n,d⟩,⟨⟨a,b⟩,⟨c,e⟩⟩⟩
 |_=>none
theorem hRBd(xs:List AVal)(a:RBd)(h:dRBd xs=some a):xs=xRBd a:=by
 unfold dRBd at h;split at h<;>cases h;rfl
def btM(x:RBd):Bool:=bif bif bif bif decide (x.q.d>0) then decide (x.b.lo.d>0) else false then decide (x.b.hi.d>0) else false then decide (wr (x.b.lo.n*x.q.d)<=wr (x.q.n*x.b.lo.d)) else false then decide (wr (x.q.n*x.b.hi.d)<=wr (x.b.hi.n*x.q.d)) else false
def ASN:=pD dRBd λx=>.bool (btM x)
def BNZ(x:RBd):Prop:=AX Try.prog (ann 50 []) BEV (AF BEV) (xRBd x) (AC []) (.bool (btM x)) [] [] []
abbrev ABA:=RBd.b
attribute [go_sem] ABA
theorem CDQ(x:RBd):(BNZ x)=(XE (btM x) (BZ (BZ (BZ (TM (Dw (RBd.q x))) (TM (NG (ABA x)))) (TM (NA (ABA x)))) (hd7 (JB (OI (ABA x)) (Dw (RBd.q x))) (JB (Gg (RBd.q x)) (NG (ABA x))))) (JB (Gg (RBd.q x)) (NA (ABA x))) (JB (OQ (ABA x)) (Dw (RBd.q x)))):=by kernel_rfl
structure BB2 where
 a:Bnd
 b:Bnd
def xBB2(x:BB2):List AVal:=[.d (eBnd x.a),.d (eBnd x.b)]
def dBB2:List AVal->Option BB2
 |[.d (.agg [.v (.int .i64 p),.v (.int .i64 q),.v (.int .i64 r),.v (.int .i64 s)]),.d (.agg [.v (.int .i64 a),.v (.int .i64 b),.v (.int .i64 c),.v (.int .i64 e)])]=>some ⟨⟨⟨p,q⟩,⟨r,s⟩⟩,⟨⟨a,b⟩,⟨c,e⟩⟩⟩
 |_=>none
theorem hBB2(xs:List AVal)(a:BB2)(h:dBB2 xs=some a):xs=xBB2 a:=by
 unfold dBB2 at h;split at h<;>cases h;rfl
def BWB:=pD dBB2 λx=>.bool (btM ⟨x.a.lo,x.b⟩&&btM ⟨x.a.hi,x.b⟩)
def BNM(x:BB2):Prop:=AX Try.prog (ann 15 [(AGK,ASN)]) BCZ (AF BCZ) (xBB2 x) (AC []) (.bool (btM ⟨x.a.lo,x.b⟩&&btM ⟨x.a.hi,x.b⟩)) [] [] []
abbrev ABB:=BB2.b
abbrev G7:=Bnd.mk
abbrev fK a b:=btM (RBd.mk a b)
attribute [go_sem] ABB G7 fK
theorem CFB(x:BB2):(BNM x)=(HX (and (fK (mZ (BB2.a x)) (ABB x)) (fK (mU (BB2.a x)) (ABB x))) (fK (mZ (BB2.a x)) (G7 (mZ (ABB x)) (mU (ABB x)))) (fK (mU (BB2.a x)) (G7 (mZ (ABB x)) (mU (ABB x))))):=by kernel_rfl
def C_l1Thr:Ctr:={ α:=One,xs:=λ_=>[.int 148],L:=λ_=>[],val:=λ_=>.d (R3 thr),keep:=λ_=>[] }
def CJZ:List AVal->Heap->Option (One×List (Nat×Nat)×List Nat)
 |[.d (.v (.int .i64 148))],_=>some (default,[],[])
 |_,_=>none
def BGH(_x:One):Prop:=AX Try.prog (ann 9 []) U9 (AF U9) [.int 148] (AC []) (.d (R3 thr)) [] [] [2064]
theorem BQM(_x:One):(BGH _x)=(AQ AT FQ (VS 3) (AE (λi=>LG i 3 (LL (IW thr i) i 0 (Hc i 1 0)) (LL (EN thr i) i 1 (Hc i 2 2)) (LL (FN thr i) i 5 (Hc i 5 9)) (LL (JR thr i) i 100 (Hc i 50 148)) (LL (JP thr i) i 2 (Hc i 1 3))))):=by kernel_rfl
def l95:DVal:=.list 1 2 (cl2 95 18) false
def C_SmI:Ctr:={ α:=One,xs:=λ_=>[.d l95,.d l95],L:=λ_=>[],val:=λ_=>.bool true,keep:=λ_=>[] }
def CIC:Ann:={ ann 26 [] with unr:=λid=>if id=4 then 3 else 0 }
def CIM(_x:One):Prop:=AX Try.prog CIC ASO (AF ASO) [.d l95,.d l95] (AC []) (.bool true) [] [] []
theorem CPO(_x:One):(CIM _x)=(AG (AG Qp (DC 0 0) (DG 0 2)) (Bi Pv 1 (DG 1 2)) GW):=by kernel_rfl
def C_aw9:Ctr:={ α:=One,xs:=λ_=>[],L:=λ_=>[],val:=λ_=>.bool true,keep:=λ_=>[] }
def C_Btw0:Ctr:={ α:=One,xs:=λ_=>[.d (R3 thr),.int 0,.int 2],L:=λ_=>[],val:=λ_=>.tup [.d (UJ ⟨147,151⟩),.int 0],keep:=λ_=>[] }
def CHO:Ann:=ann 47 [(U6,C_l1Thr.spec CJZ),(AOA,C_Btw0.spec d_3),(AGO,C_l7Four.spec d_1),(BBR,C_dVol.spec d_3),(ARA,C_l9Two.spec V3),(AQU,C_sReal.spec U4),(AQX,C_SmI.spec U4)]
def CKQ(_x:One):Prop:=AX Try.prog CHO AJC (AF AJC) [] (AC []) (.bool true) [] [] []
theorem COW(_x:One):(CKQ _x)=(AI (AV (BO 148) AT FQ (AE (λi=>LG i 3 (XL thr i) (YR thr i) (XN thr i) (YB thr i) (YL thr i))) AL BL) (CM (BO 58) (FF 10) (FU ED EK (λi=>Qj i (HY (DR (Is i)) (Jl i) (Im i))) YG BL)) (RY BL FQ (λi=>OM i i i i) (BO 120)) (QM (ABC CO (AE (λi=>TJ i (AJ (Da i 95 18)))) (AE (λi=>TJ i (AK (Da i 95 18) (HG i 95 18)))))) GW):=by kernel_rfl
theorem CFZ(x:LbS)(h:CR (prB x)):FnT Try.prog AOA (C_lBtw.xs x) (AC []) (C_lBtw.val x) []:=Ee (A:=BEB) (ren:=[]) (fz:=[]) BOJ (by kernel_rfl) (AA BGD AD) (BNG x h)
theorem CPS:AH Try.prog BUT (C_Lvd.spec CKS):=PU C_Lvd (λ_=>CIE) [] [] CMG (λ_=>by kernel_rfl) (λ_=>AA ARM (AA AMU AD)) (λ(x:LvS) h=>by
 obtain⟨⟨h1,h2⟩,h3,h4⟩:(0<=x.s.used/\0<=(lvS1 x).used)/\(0<=x.a/\x.a<x.h.length)/\(0<=x.b/\x.b<x.h.length):=h
 show CHL x;rw[COI]<;> delta AK AN FI AE BA BM IR BH DC ER NE TD Ff Nn FF TK TC MW ZN ZK ZM eS sR Rs yP mA yL mH H4 CS AG AI AO AJ VY IV AS EL BF yH DN tZ HA ANA EA ML DG NQ GM AV gP DT RO IY wO Wp Yd HL JD Gq HZ JF tW BR Hi JM fJ qD JX kI WX WL WG Zj Tk kL Gl Sk Ze vX;simp only[CC,CU,CF]
 exact⟨⟨rfl,h1⟩,⟨h4,h3,h2⟩,rfl,rfl,rfl,rfl,rfl,rfl,λ_ _=>rfl,rfl,rfl⟩) (λ_=>RR rfl rfl) _
theorem CDK:AH Try.prog BBZ BUZ:=MA xNSp hNSp λx _=>Ee (A:=ann 15 []) (ren:=[]) (fz:=[]) CBT (by kernel_rfl) AD (by
 show BSF x;rw[CBW]<;> delta LI Wo G4 hd7 UD CE EE BZ HX eZ XE;unfold MN;by_cases h:x.s.lo<=x.n<;>simp[h])
theorem BHF:AH Try.prog AGK ASN:=MA xRBd hRBd λx _=>Ee (A:=ann 50 []) (ren:=[]) (fz:=[]) CEM (by kernel_rfl) AD (by
 show BNZ x;rw[CDQ]<;> delta LI Wo hd7 UD Xi NE Gg Dw D8 mZ mU ABA CS JB BZ HX NA NG OQ OI TM XE;rfl)
theorem CAJ:AH Try.prog BCT BWB:=MA xBB2 hBB2 λx _=>Ee (A:=ann 15 [(AGK,ASN)]) (ren:=[]) (fz:=[]) CCK (by kernel_rfl) (AA BHF AD) (by
 show BNM x;rw[CFB]<;> delta LI Wo UD mZ mU ABB G7 BZ HX fK;cases btM ⟨x.a.lo,x.b⟩<;>rfl)
theorem BNJ:AH Try.prog U6 (C_l1Thr.spec CJZ):=PU C_l1Thr (λ_=>ann 9 []) [] [2064] BDD (λ_=>by kernel_rfl) (λ_=>AD) (λ(x:One) _=>by
 show BGH x;rw[BQM]<;> delta AK AN AE BA BM CW KJ FF TK TC Fg ZN ZK ZM HD HS ZU AG AP AI AO AJ AR VS BO AQ XJ LG JP JR Pj AT IW EN FN RV HG LL FQ nW jI Hc;simp only[CC,CU,CF]
 refine⟨by omega,λj hj=>?_⟩
 match j,hj with
 |0,_=>exact⟨rfl,rfl,rfl,rfl,rfl⟩
 |1,_=>exact⟨rfl,rfl,rfl,rfl,rfl⟩
 |2,_=>exact⟨rfl,rfl,rfl,rfl,rfl⟩) (λ_=>RR rfl rfl) _
theorem CNK:AH Try.prog AQX (C_SmI.spec U4):=PU C_SmI (λ_=>CIC) [] [] BNV (λ_=>by kernel_rfl) (λ_=>AD) (λ(x:One) _=>by
 show CIM x;rw[CPO]<;> delta LI HU BH DC ER AG DR BF EA DG DT GW SC HW cY Bi Pv Qp;decide +kernel) (λ_=>RR rfl rfl) _
theorem CDM:AH Try.prog AOA (C_Btw0.spec d_3):=Ctr.spec_ok (C:=C_Btw0) (λ(_:One) _=>by
 have:=CFZ ⟨thr,0,2⟩ BGT.1
 have e:C_lBtw.val ⟨thr,0,2⟩=.tup [.d (UJ ⟨147,151⟩),.int 0]:=by show AVal.tup [.d (UJ (btwV ⟨thr,0,2⟩)),.int 0]=_;rw[BGT.2]
 rw[e] at this
 exact this) _
theorem COQ:AH Try.prog AKA (C_aw9.spec V3):=PU C_aw9 (λ_=>CHO) [] [] BMF (λ_=>by kernel_rfl) (λ_=>AA BNJ (AA CDM (AA BLB (AA CAF (AA BPF (AA BUF (AA CNK AD))))))) (λ(x:One) _=>by
 show CKQ x;rw[COW]<;> delta LI Wo HU AK AN AE BA BM FF TK TC Fg ZN ZK ZM HS Db ZU AG AI AO AJ AR DR CM HY ZY MM BO AQ ABC XJ LG JP Gz JR AV Da AT IW EN AL FN En Ta PD BL XN ED YR XL CO pU Gy FU YB GW HG YL EK QN jX Up QM Is FQ Im Ep Jl Qj Dy TJ OM YG RY;simp only[CC,CU,CF]
 intro i hi
 match i,hi with
 |0,_=>rfl
 |1,_=>rfl) (λ_=>RR rfl rfl) _
end Go.Bal
