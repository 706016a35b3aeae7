/- Package chart: the fewest stops, for at most 12 notes. -/
import Derived.Test.YtdbjalgfomknhaaGreatChK
import Derived.Test.YtdbjalgfomknhaaGreatChZm
set_option linter.unusedVariables false
set_option linter.unusedSimpArgs false
namespace Go.Bal
open Go Go.Sym Go.Proofs
def BTF(c:Cht):Prop:=(c.ms.length<4611686018427387904/\c.ns.length<4611686018427387904)/\(AP c=0->c.ns.length<=12)
def C_few12:Ctr:={ DCB with pre:=λ(c:Cht)=>[BTF c] }
def BRB(c:Cht):Ann:={ ann 101 [(Iz,C_open.spec iT),(AKN,C_sort.spec dGLt),(BDF,C_late.spec dDkP),(AZN,C_stop.spec dDkZ),(mQ,C_times.spec sX)] with mt:=λid=>id==8||id==23,loops:=λid=>if id=6 then some [fw6n c,fw6o c] else if id=15 then some [DAB c,DDP c] else none,inner:=λgs id=>if id=18 then (if gs.getD 1 0=0 then some [DBO c (gs.getD 0 0)] else some [DEN c (gs.getD 0 0)]) else none,cut:=λid=>if id=10 then some [fw10 c] else if id=11 then some [fw11 c [202]] else if id=26 then some [fw26 c [],fw26 c [301,302]] else none,cutIn:=λgs id=>if id=25 then (if gs.getD 1 0=0 then some [DAN c (gs.getD 0 0),CEP c (gs.getD 0 0) [(301,24048),(302,24112)]] else some [CEP c (gs.getD 0 0) [(301,24048),(302,24112)],CEP c (gs.getD 0 0) []]) else none }
def BSG(c:Cht):Prop:=ES Try.prog (BRB c) sJ (AJ sJ) [.d (Nj c)] (AD []) (.tup [.d (GB (N5 c).q),.d (aZ (N5 c).r),.int (N5 c).e]) [] [] []
abbrev Zc:=IM
abbrev AWE:=FwS.r
abbrev mD:=FwR.q
abbrev lX:=FwR.r
abbrev tH:=FwR.e
abbrev iX a:=FwS.q (Hm a)
abbrev uW a:=WQ (iX a)
abbrev VL a:=BCO a (uW a)
abbrev Hu a:=BQ (CO a)
abbrev Hw a:=BV (CO a)
abbrev Hj a:=BM (CO a)
abbrev Hb a:=BY (CO a)
abbrev wS a b:=Cp (CO a) Bm (CM b)
abbrev jT a:=DF (CO a)
abbrev UM a b c d:=PM a b c d d
abbrev Vu a b:=AWE (Mf a b)
abbrev ZM a b c d e f:=HH a b c d e (BG f)
abbrev Is a b:=FwS.q (Mf a b)
abbrev dR a:=NF (FP a)
abbrev Xv a:=Ge (Zc a)
abbrev AYY a b c d:=Qq (Ak (Zc a)) b (Xv c) d
abbrev lE a b c d e:=AYY a (AY b c) d e
abbrev Rm a b:=Vu a (KJ b)
abbrev Et a b:=Is a (KJ b)
abbrev kE a:=RL (CO a)
abbrev jZ a:=XK (CO a)
abbrev H3 a b:=FT a (CO b)
abbrev kG a:=HG (CO a)
abbrev D7 a:=JC (CO a)
abbrev kU a:=GD (CO a)
abbrev vU a b:=FwS.la (Mf a b)
abbrev E4 a b:=vU a (KJ b)
abbrev Kj a b:=Vu a (EL b)
abbrev Ac a b:=Is a (EL b)
abbrev Lq a b:=vU a (EL b)
abbrev H5 a b:=FS (Zc a) b
abbrev Np a b:=H5 a (EL b)
abbrev Rx a b:=Q6 (EL a) (Zc b)
abbrev NN a b c:=IC a b a c
abbrev fZ a b:=FS (Rx a b) (GU a)
abbrev uX a b:=dPr (DVal.agg (lU a b))
abbrev bR a b c d:=uX (Gk (fZ a b)) (U2 (Np c d) AEJ)
abbrev wE a:=AED a QT
abbrev QH a:=EV a 1
abbrev pJ a:=El (AO a) CG
attribute [go_sem] Zc AWE mD lX tH iX uW VL Hu Hw Hj Hb wS jT UM Vu ZM Is dR Xv AYY lE Rm Et kE jZ H3 kG D7 kU vU E4 Kj Ac Lq H5 Np Rx NN fZ uX bR wE QH pJ
theorem CDH(c:Cht):(BSG c)=(AH (Ki c (λi=>AT i c (AM c i) (AN c i) (AS c i) (AC c i) (AL c i) (AR c i) (AE c i)) (SA c)) (Lf (Dg (Ow EY (Ir (Dq c) BP c (GD c) (CR (JC c) (HG c) (λi=>FT i c) (GM (CO c) (OQ c)) (CY (CO c) (OQ c)) (GO (CO c) (OQ c)) (GH (CO c) (OQ c)) (GK (CO c) (OQ c)) (Fw (VK (CO c) (OQ c)) (VH (CO c) (OQ c)) (XF (CO c) (OQ c)) (λi=>AU i (CO c) (PT (CO c) i (OQ c)) (Gu (CO c) i (OQ c) i) (xK c i) (AC (OQ c) i) (Er (CO c) i (OQ c) i) (vF c i) (AE (OQ c) i)) Bm LR (λi=>Hv (CO c) i (OQ c) i) (λi=>AY (sR c i) (sR (FQ c) i)) (λi=>Gs (CO c) i (OQ c) i i i)))))) (OO IP 0 (AO c) (PF kB Xs Hh He 8) (KI (λi=>AH (AI AG (LP i) (Dq c) (BA i 0) (bA c (QG (HI c) (Hb c) (CO c) (Hj c) (Hw c) (Hu c) (kU c) (λj=>GP j (CO c)) (VQ (kG c) (HI (CO c)) Bm (jZ c) (Bi c) (kE c) (LP i) (AB (λj=>AV j i (CV j 0))))))) (YP i (AO c)) (Oz i))) VS) (λi=>OO (YP i (AO c)) i (AO c) (PF (qY (BI i) i) Xs Cd (Ep i) (Es i 8)) (KI (λj=>Fv (AI AG (PI j i) (Dq c) (BA j i) (bA c (QG (HI c) (Hb c) (CO c) (Hj c) (Hw c) (Hu c) (kU c) (λk=>GP k (CO c)) (VQ (kG c) (HI (CO c)) Bm (jZ c) (Bi c) (kE c) (PI j i) (AB (λk=>AV k j (FL k (OZ k i (CG k) (CG i))))))))) (YP j (AO c)) j i)) (Xn (Ow (HE c i) (bA c (QG (HI c) (Hb c) (CO c) (Hj c) (Hw c) (Hu c) (kU c) (λj=>GP j (CO c)) (VQ (kG c) (HI (CO c)) Bm (jZ c) (Bi c) (kE c) (HE c i) (AB (λj=>Vr j c (EF j))))))) (jN 1 c)))) (Qj (λi=>FA 1 (AO c) (BL (Oh AG (EV (pJ c) (AO c)) (AB (λj=>Bd j (pJ c) j (CG j))) (Ag c (CF (BQ c) (BW c) (DK c) (BO c) (λj=>AT j c (AM c j) (AN c j) (AS c j) (AC c j) (AL c j) (AR c j) (AE c j)) (BY c) (DF c) (BM c) (Dp c (HS c) (Gc c) (KS c) (λj=>AU j c (EI c j) (EJ c j) (AC c j) (AS c j) (EH c j) (AE c j) (AR c j)) (CW (FP (pJ c)) 12) (MI (FP (pJ c))) (AB (λj=>Pb j (FP (pJ c)) (FS (pJ c) j) (cL (FS (pJ c) j) c))))))) (Pj (EV (Zc c) (AO c)) (IA (VU (AO c) (FP (pJ c))) (λj=>ZM j (Zc c) (Zc c) j (stM (aE (FQ c)) (pJ c)) j) (BY c) (DF c) (BM c) (BV c) (BQ c) (GD c) (CR (JC c) (HG c) (λj=>FT j c) (Hb c) (jT c) (Hj c) (Hw c) (Hu c) (wS c c)))) (Dw (M7 (LF (KI (λj=>DT AG (Sa (Xv c) (lE c (vU c j) (-1) c (Ir (CV (AO c) (FP (Zc c))) (CQ j) c (GD c) (CR (JC c) (HG c) (λk=>FT k c) (Hb c) (jT c) (Hj c) (Hw c) (Hu c) (wS c c))))) (Qc j c) (wE (Is c j)))) (AB (λj=>XL (bM j c (wE (Is c j))) j (AO c) (LF (CL j (FP (Zc c)) (Ng WZ (DX j) (Hr (CG j) (FP (Zc c))) (Qn (λk=>AH (CS (NN (Zc c) (EL k) j) (EV (Rx k c) (Pz j)) (AB (λl=>LJ l (Rx k c) (Zc c) (Bp l))) (Oq k (Pz j)) (CQ (GU k)) AG (Sa (Xv c) (lE c (Lq c k) (vU c j) c (Ir (Dq c) (Oq k j) c (GD c) (CR (JC c) (HG c) (λl=>FT l c) (Hb c) (jT c) (Hj c) (Hw c) (Hu c) (wS c c)))))) (FY (wQ k (AO c)) (FI (AO c) (EL k) j) (kI k k) (AB (λl=>eY l k (DZ (fwP c (Lq c k) (Np c k) (H5 c l)))))) (wE (Ac c k)))) (tO (λk=>XL (HV (wQ k (AO c)) (FI (AO c) (EL k) j) (kI k k) (AB (λl=>eY l k (DZ (fwP c (Lq c k) (Np c k) (H5 c l))))) (wE (Ac c k))) (GU k) (EL k) (Cl (GU k) (Iq k) (FP (Rx k c)) (WY (fZ k c) (AO c) (IT (WB (Ni c (fZ k c)) (Lq c k)) (BB (AY (JM (bR k c c k)) (fZ k c)) (AY (JF (bR k c c k)) (Np c k)) (Hb c) (jT c) (Hj c) (Hw c) (Hu c) (BW (CO c)) (Hp (CO c) (λl=>AT l (CO c) (AM (CO c) l) (AN (CO c) l) (AS (CO c) l) (xK c l) (AL (CO c) l) (AR (CO c) l) (vF c l)) gY (Bi c) (Bh (λl=>AU l (CO c) (EI (CO c) l) (EJ (CO c) l) (xK c l) (AS (CO c) l) (EH (CO c) l) (vF c l) (AR (CO c) l)) Bm (CO c) (Bi c) (YG (JM (bR k c c k)) (HF (CO c)) (BX (JF (bR k c c k))) (cL (JF (bR k c c k)) (CO c))) (KH (HK (CO c)) 40 (Om (CO c) 20)) (AB (λl=>Pb l (HF (CO c)) (IE (CO c) l) (DN (IE (CO c) l) (HK (CO c)))))))))) (FV (IB (WB (Ni c (fZ k c)) (Lq c k)) (tF (BDZ c) (bR k c c k))) (YG (Np c k) (AO c) (And (PF kB Xs Hh He 8) Hq) (KI (λl=>LQ AG (QH (Et c l)) AG (JI (Rm c l) 1) (Xv c) (AYY c (Ld (E4 c l) (Ni c (Np c k))) c (Ex (Dq c) (CV l (EL k)) c c (Ev c (Hb c) (RR (CO c) (Hj c) (Hw c) (Hu c) (kU c) (D7 c) (kG c) (λm=>H3 m c) (Ih gY (jZ c) (Bi c) (kE c) (QH (Et c l)) (λm=>Bd m (Et c l) m (ZN (Ni c (Np c k)))) (JI (Rm c l) 1) (AB (λm=>LL m (Rm c l) (fZ k c) (Np c k)))))))) (cV l c j (dR (Et c l)))))) (Qn (λl=>IF (CS (NN (Zc c) (EL l) (EL k)) (IZ (Rx l c) (Rx k c)) (Ux (Rx l c) (Rx k c)) (Wo l k) (Zt l (GU k)) AG (Sa (Xv c) (lE c (Lq c l) (Lq c k) c (Ir (Dq c) (Wo l k) c (GD c) (CR (JC c) (HG c) (λm=>FT m c) (Hb c) (jT c) (Hj c) (Hw c) (Hu c) (wS c c)))))) (HV (wQ l (AO c)) (FI (AO c) (EL l) j) (kI l l) (AB (λm=>eY m l (DZ (fwP c (Lq c l) (Np c l) (H5 c m))))) (wE (Ac c l))) (AO c) (GU l) (GU k))))) (KI (λl=>BL AG (Sa (Xv c) (lE c (E4 c l) (Lq c k) c (Ir (Dq c) (CV l (EL k)) c (GD c) (CR (JC c) (HG c) (λm=>FT m c) (Hb c) (jT c) (Hj c) (Hw c) (Hu c) (wS c c))))) (cV l c j (wE (Et c l))))))))) (AB (λk=>CJ (cV k c j (wE (Et c k))) (KI (λl=>Jj (Sa (Xv c) (lE c (vU c l) (E4 c k) c (Ir (Dq c) (BA l k) c (GD c) (CR (JC c) (HG c) (λm=>FT m c) (Hb c) (jT c) (Hj c) (Hw c) (Hu c) (wS c c))))) (bM l c (wE (Is c l))) (AO c) l j)))) (λk=>CJ (cV k c j (dR (Et c k))) (KI (λl=>Jj (AI (IZ (Is c l) (Et c k)) AG (RZ (Vu c l) (Rm c k)) (Xv c) (lE c (vU c l) (E4 c k) c (Ex (Dq c) (BA l k) c c (Ev c (Hb c) (RR (CO c) (Hj c) (Hw c) (Hu c) (kU c) (D7 c) (kG c) (λm=>H3 m c) (Ih gY (jZ c) (Bi c) (kE c) (IZ (Is c l) (Et c k)) (λm=>KO m (Is c l) (Et c k)) (RZ (Vu c l) (Rm c k)) (XM (Vu c l) (Rm c k)))))))) (bM l c (dR (Is c l))) (AO c) l j)))) (Pj (Bn (iX c)) (Oh (Bn (iX c)) (JI (AWE (Hm c)) 0) (Hb c) (AI (jT c) (Hj c) (Hw c) (Hu c) (wS c c)))))) (λj=>XL (bM j c (dR (Is c j))) j (AO c) (M7 (CL j (FP (Zc c)) (Ng WZ (DX j) (Hr (CG j) (FP (Zc c))) (Qn (λk=>Ng (NN (Zc c) (EL k) j) (EV (Rx k c) (Pz j)) (BB (AB (λl=>LJ l (Rx k c) (Zc c) (Bp l))) (Oq k (Pz j)) (CQ (GU k)) AG (IZ (Ac c k) (Is c j)) AG (RZ (Kj c k) (Vu c j)) (Xv c) (lE c (Lq c k) (vU c j) c (Ex (Dq c) (Oq k j) c c (Ev c (Hb c) (RR (CO c) (Hj c) (Hw c) (Hu c) (kU c) (D7 c) (kG c) (λl=>H3 l c) (Ih gY (jZ c) (Bi c) (kE c) (IZ (Ac c k) (Is c j)) (λl=>KO l (Ac c k) (Is c j)) (RZ (Kj c k) (Vu c j)) (XM (Kj c k) (Vu c j)))))))) (FY (wQ k (AO c)) (FI (AO c) (EL k) j) (kI k k) (AB (λl=>eY l k (DZ (fwP c (Lq c k) (Np c k) (H5 c l)))))) (dR (Ac c k)))) (tO (λk=>XL (HV (wQ k (AO c)) (FI (AO c) (EL k) j) (kI k k) (AB (λl=>eY l k (DZ (fwP c (Lq c k) (Np c k) (H5 c l))))) (dR (Ac c k))) (GU k) (EL k) (Cl (GU k) (Iq k) (FP (Rx k c)) (WY (fZ k c) (AO c) (IT (WB (Ni c (fZ k c)) (Lq c k)) (BB (AY (JM (bR k c c k)) (fZ k c)) (AY (JF (bR k c c k)) (Np c k)) (Hb c) (jT c) (Hj c) (Hw c) (Hu c) (BW (CO c)) (Hp (CO c) (λl=>AT l (CO c) (AM (CO c) l) (AN (CO c) l) (AS (CO c) l) (xK c l) (AL (CO c) l) (AR (CO c) l) (vF c l)) gY (Bi c) (Bh (λl=>AU l (CO c) (EI (CO c) l) (EJ (CO c) l) (xK c l) (AS (CO c) l) (EH (CO c) l) (vF c l) (AR (CO c) l)) Bm (CO c) (Bi c) (YG (JM (bR k c c k)) (HF (CO c)) (BX (JF (bR k c c k))) (cL (JF (bR k c c k)) (CO c))) (KH (HK (CO c)) 40 (Om (CO c) 20)) (AB (λl=>Pb l (HF (CO c)) (IE (CO c) l) (DN (IE (CO c) l) (HK (CO c)))))))))) (FV (IB (WB (Ni c (fZ k c)) (Lq c k)) (tF (BDZ c) (bR k c c k))) (YG (Np c k) (AO c) (And (PF (And (Ge (Ac c k)) (GQ 0 (Ac c k) Af)) Xs Cd (Ep (FP (Ac c k))) (Es (FP (Ac c k)) 8)) (Hi (GA (Kj c k)))) (KI (λl=>LQ AG (EV (Et c l) (KJ (FP (Ac c k)))) AG (JI (Rm c l) (KJ (GA (Kj c k)))) (Xv c) (AYY c (Ld (E4 c l) (Ni c (Np c k))) c (Ex (Dq c) (CV l (EL k)) c c (Ev c (Hb c) (RR (CO c) (Hj c) (Hw c) (Hu c) (kU c) (D7 c) (kG c) (λm=>H3 m c) (Ih gY (jZ c) (Bi c) (kE c) (EV (Et c l) (KJ (FP (Ac c k)))) (λm=>Bd m (Et c l) m (OZ m (FP (Ac c k)) (FS (Ac c k) m) (ZN (Ni c (Np c k))))) (JI (Rm c l) (KJ (GA (Kj c k)))) (AB (λm=>LL m (Rm c l) (OZ m (GA (Kj c k)) (LV (Kj c k) m) (fZ k c)) (OZ m (GA (Kj c k)) (LU (Kj c k) m) (Np c k))))))))) (cV l c j (dR (Et c l)))))) (Qn (λl=>IF (AH (NN (Zc c) (EL l) (EL k)) (IZ (Rx l c) (Rx k c)) (BB (Ux (Rx l c) (Rx k c)) (Wo l k) (Zt l (GU k)) AG (IZ (Ac c l) (Ac c k)) AG (RZ (Kj c l) (Kj c k)) (Xv c) (lE c (Lq c l) (Lq c k) c (Ex (Dq c) (Wo l k) c c (Ev c (Hb c) (RR (CO c) (Hj c) (Hw c) (Hu c) (kU c) (D7 c) (kG c) (λm=>H3 m c) (Ih gY (jZ c) (Bi c) (kE c) (IZ (Ac c l) (Ac c k)) (λm=>KO m (Ac c l) (Ac c k)) (RZ (Kj c l) (Kj c k)) (XM (Kj c l) (Kj c k))))))))) (HV (wQ l (AO c)) (FI (AO c) (EL l) j) (kI l l) (AB (λm=>eY m l (DZ (fwP c (Lq c l) (Np c l) (H5 c m))))) (dR (Ac c l))) (AO c) (GU l) (GU k))))) (KI (λl=>LQ AG (IZ (Et c l) (Ac c k)) AG (RZ (Rm c l) (Kj c k)) (Xv c) (lE c (E4 c l) (Lq c k) c (Ex (Dq c) (CV l (EL k)) c c (Ev c (Hb c) (RR (CO c) (Hj c) (Hw c) (Hu c) (kU c) (D7 c) (kG c) (λm=>H3 m c) (Ih gY (jZ c) (Bi c) (kE c) (IZ (Et c l) (Ac c k)) (λm=>KO m (Et c l) (Ac c k)) (RZ (Rm c l) (Kj c k)) (XM (Rm c l) (Kj c k))))))) (cV l c j (dR (Et c l))))))))) (AB (λk=>CJ (cV k c j (dR (Et c k))) (KI (λl=>Jj (AI (IZ (Is c l) (Et c k)) AG (RZ (Vu c l) (Rm c k)) (Xv c) (lE c (vU c l) (E4 c k) c (Ex (Dq c) (BA l k) c c (Ev c (Hb c) (RR (CO c) (Hj c) (Hw c) (Hu c) (kU c) (D7 c) (kG c) (λm=>H3 m c) (Ih gY (jZ c) (Bi c) (kE c) (IZ (Is c l) (Et c k)) (λm=>KO m (Is c l) (Et c k)) (RZ (Vu c l) (Rm c k)) (XM (Vu c l) (Rm c k)))))))) (bM l c (dR (Is c l))) (AO c) l j))))) (Mv (IZ (iX c) (Is c j)) (KC (FP (Is c j))) (AB (λk=>ZM k (iX c) (iX c) k (Is c j) k)) (CR (RZ (AWE (Hm c)) (Vu c j)) (KC (GA (Vu c j))) (λk=>UM k (AWE (Hm c)) (Vu c j) (BG k)) (Hb c) (jT c) (Hj c) (Hw c) (Hu c) (wS c c)) IP))) (Dw (DT (IZ (uW c) (iX c)) (Mb (Ux (uW c) (iX c)) (Hb c) (EC (CO c)) (Hj c) (ZE (Hw c) (Hu c) (BW (CO c)) (DK (CO c)) (BO (CO c)) (AB (λj=>AT j (CO c) (AM (CO c) j) (AN (CO c) j) (AS (CO c) j) (xK c j) (AL (CO c) j) (AR (CO c) j) (vF c j))) Bm (BB (TE (CO c)) (Bi c) (MF (CO c)) LR (KM (λj=>Hv (CO c) j (VL c) j)) (KM (λj=>AY (sR c j) (YV (uH (rP c c) (uW c)) j))) (KM (λj=>Gs (CO c) j (VL c) j j j)) (NV (uW c)) (ZB (CO c))))) (Ga (VL c) (Xd (VL c) (λj=>AT j (VL c) (AM (VL c) j) (AN (VL c) j) (AS (VL c) j) (AC (VL c) j) (AL (VL c) j) (AR (VL c) j) (AE (VL c) j)) (Ui (uH (rP c c) (uW c))) LR (KM (λj=>Fo (VL c) j (CO c) j)) (Bi c) (KM (λj=>Fh (VL c) j (CO c) j j j)) (Xb (λj=>AU j (VL c) (EI (VL c) j) (EJ (VL c) j) (AC (VL c) j) (AS (VL c) j) (EH (VL c) j) (AE (VL c) j) (AR (VL c) j)) (λj=>JG j (uH (rP c c) (uW c))) LR (KM (λj=>Ha (CO c) j (VL c) j)) (Bi c) (KM (λj=>Gw (CO c) j (VL c) j (VL c) j (VL c) j)) (Ci (VL c)) (ZB (VL c)) (KM (λj=>Ro (WK (VL c) j) j (VL c)))))) (FV (not (qQ (qE (BKX (FQ (VL c)) c (uH (rP c c) (uW c)))))) (M3 (Bn (mD (N5 c))) (JI (lX (N5 c)) 0) (AY (tH (N5 c)) 6)) (AI (IZ (mD (N5 c)) (iX c)) (Ux (mD (N5 c)) (iX c)) (RZ (lX (N5 c)) (AWE (Hm c))) (XM (lX (N5 c)) (AWE (Hm c))) (FG (tH (N5 c))))))))))))):=by kernel_rfl
theorem CKB(c:Cht)(h1:c.ms.length<4611686018427387904/\c.ns.length<4611686018427387904)(h0:AP c=0)(hn:1<=c.ns.length/\c.ns.length<=12):BSG c:=by
 have hl:=PR h0
 have hs:=Zu h0
 have hM:=BXR hs.1
 have hO:=BDB c
 have hR:=λi (h:i<c.ns.length)=>CJX c h
 have hF:=BJY c
 rw[CDH]<;> delta MD N6 Iv BH BK DY RD RU Mr EM EO CH AB CJ CE AY CG MY CW FV NL HD KA UI IG EB FX EC GY GX GR GG DV FO FU KI IP FP FS El LW WB US HM IV VS YU KM WU ED NR BN YV WT Qr Qj Lg bX qE qQ AED JM JF tF GA QB Q6 Qn EL GU tO QT lU AEJ Zc AWE mD lX tH AH CK IW AX JE AI CO WE BC AV AF IK M7 IN BI GJ MK Jc Sz Qq M3 Oh AQ WV JB BB AC BZ CN Eh BF MC AE AO BD HK DD LZ AZ DC BG BR BE BS BJ JQ Ch AR BQ WQ Mb LY SZ BV HF ZK CI OC EQ GQ BL AS BM CY Oc BY ER FL EV CF AG IE HR BX TV KL CU GW YS KJ HO DN MW GD CX OT OR Cx OE LH FQ DF DU OQ HY IC DR OU HG PC OD EA Ql DT LR LU Gi KQ HH FE FG FW Qe LV Aw AT yV IZ HN BDZ MJ JA ZN ZS IT DX HE ZM OF BKX Ge CR EZ GT EX JJ BA BP WK iX NF RG Fs CV HT AU DO DI CS uW GZ Is Xg DZ HW BO BW JH FI JG NN AL AN AM LJ KO GP ID HQ XK VX Ct rP NP FK MQ JC MN DK VI JI Vu IU JU BCO Py SC FT EF QD LM JW GK Gb MH VW XI Eb NV QH VD HI JZ GM GH FA MP TF TQ IB KH SN Td CQ GO HZ KS HS CL Gr VL PT MR Fi EH EJ EI LL EY RL Ak NY JY PO FH IL FY OZ U2 Fo Eo VU Bb PM KC Fq UM Do JL uI Ew Cn IF IA ON Rx Ha H5 PF TE Iq HV LF Np PY VK vU UC XF Bm MI bA Fh Ff Dv MF WJ Gw RZ Cp LP VZ QP Fx Ac PI MO YP Ev Mw SA YM Cl Et RQ Xv Pe Bi Xo Hb Ik LQ UV Es XM Kj Hw Dq YG Bf YH fZ Fp Hf Hj Oq WZ Hr Ci Cd Ni VH Hu RR VQ OO Hh He Gt Af uX Lq Qv Ep ZB Bp Bn Ll Xn eO XL Rm WY Dp TY Gd Ex Ln Dw Pz QG Lx Vq Xk Om Dg qY Gc Bd Jt Ga Ag Qc Vj Ld dR Hv Er kE U5 ZE Fv lJ jZ bR Gu Pb Wo gY kG AYY Vr Sa jT Wy Lf bM eY kI Ir kU Hi Xs Ux pJ Xd cV jV Oz Pj Zt D7 Ui Hq Xb Ih wE Ow Gs Ki Vw Fw lE Ng Mv Ro Hp E4 H3 cL uH sR jN wQ wS vF kB Jj xK Bh;simp only[CC,eq_self,implies_true,forall_const,FR,AGZ,fK,BFM,AJL,BXS]
 have hI:∀i,i<c.ns.length->gD (NK c.ns.length λi=>(i:Int)) i=(i:Int):=λi hi=>FF _ _ _ hi
 have hT:∀k j,j<k->gD ((IM c).take k) j=gD (IM c) j:=λk j h=>mP h
 have hTl:∀k,k<=c.ns.length->((IM c).take k).length=k:=λk h=>by rw[List.length_take,hO];omega
 have pre:∀x∈[0],True:=λ_ _=>trivial
 refine⟨⟨h1,h0⟩,⟨⟨⟨default,trivial⟩,?_,?_⟩,λ_=>⟨⟨⟨hI,hn.2,by omega,?_⟩,default,hO,Nat.le_refl _,λ_ _=>rfl⟩,⟨⟨0,⟨rfl,by rw[hO],rfl⟩,Nat.zero_le _,rfl⟩,?_,?_⟩,?_⟩⟩⟩
 ·refine⟨λ_=>⟨by decide,1,⟨rfl,by decide,rfl,λi hi=>by omega⟩,by omega,by omega⟩,λh=>h (by omega)⟩
 ·intro a ha
  refine⟨λh=>⟨⟨Nat.one_pos,(λh=>by cases h),by omega,by omega⟩,a+1,⟨rfl,by rw[Ap (by omega) (by omega)];rfl,rfl,λi hi=>?_⟩,by omega,by omega⟩,λh=>⟨default,by omega,by omega⟩⟩
  by_cases h2:i<a
  ·rw[decide_eq_true h2];rfl
  ·rw[decide_eq_false h2];show (i:Int)=a;omega
 ·intro i hi;rw[hI i hi];omega
 ·rintro k ⟨hk,hq⟩
  refine⟨λh=>?_,λh=>?_⟩
  ·have hk2:k<c.ns.length:=by omega
   refine⟨⟨⟨by omega,by omega⟩,⟨by omega,by omega,by omega⟩,⟨⟨k,0⟩,⟨rfl,hTl k hk,λi hi=>?_,rfl,rfl,rfl,rfl⟩,⟨hk2,rfl,Nat.zero_le _,λt ht=>absurd ht (Nat.not_lt_zero _)⟩,hq⟩,?_⟩,?_,?_⟩
   ·rw[hT _ _ (by have hi:i<((IM c).take k).length:=hi;rw[hTl k hk] at hi;exact hi),show Int.toNat 0=0 from rfl,Nat.zero_add]
   ·rintro y ⟨⟨y1,y2,y3,y4⟩,y5⟩
    have hp:∀j,j<y.i->(bif decide ((gD c.ns (gD ((IM c).take y.i) j).toNat).mi>(Mf c y.i).la) then Eg c { a:=gD ((IM c).take y.i) j,b:=gD (IM c) y.i } else false)=fwP c (Mf c y.i).la (gD (IM c) y.i) (gD (IM c) j):=λj hj=>by rw[hT _ _ hj];rfl
    refine⟨λhj=>⟨⟨by omega,by rw[hTl _ (by omega)];exact hj⟩,⟨by rw[hT _ _ (by omega)];exact hR _ (by omega),λ_=>⟨⟨by rw[hT _ _ (by omega)];exact hR _ (by omega),hR _ y1⟩,⟨hl.2.1.2,hl.2.2⟩,hM⟩⟩,λhc=>?_,λhc=>?_⟩,λhj=>?_⟩
    ·rw[hp _ (by omega)] at hc
     have e:=CQW (by omega) (by omega) y4 hc
     rw[hT _ _ (by omega)]
     have h8:(Mf c y.i).r=[]:=List.length_eq_zero_iff.1 (by rw[(hF y.i).2,y5];rfl)
     refine⟨hR _ y1,by decide,y.i,?_,y1,y2,?_⟩
     ·rw[e,y5,h8]
      refine⟨rfl,rfl,rfl,rfl,rfl,λi hi=>?_,rfl,λi hi=>?_⟩
      ·have hi:i<1:=hi
       obtain rfl:i=0:=by omega
       rfl
      ·have hi:i<1:=hi
       obtain rfl:i=0:=by omega
       exact⟨rfl,rfl⟩
     ·rw[e,y5];exact Nat.one_pos
    ·rw[hp _ (by omega)] at hc
     have e:IntKind.i64.wrap ((y.j:Int)+1)=((y.j+1:Nat):Int):=by rw[Ap (by omega) (by omega)];rfl
     refine⟨⟨y.i,y.j+1⟩,⟨rfl,rfl,λ_ _=>rfl,rfl,e.symm,rfl,rfl⟩,⟨⟨y1,y2,by show y.j+1<=y.i;omega,λt ht=>?_⟩,y5⟩,by show _-(y.j+1)<_;omega⟩
     have ht:t<y.j+1:=ht
     by_cases h2:t=y.j
     ·subst h2;exact hc
     ·exact y4 t (by omega)
    ·have e:=CSZ (by omega) (λt (ht:t<y.i)=>y4 t (by omega))
     refine⟨y.i,?_,y1,y2,?_⟩
     ·rw[e];exact⟨rfl,rfl⟩
     ·rw[e];exact y5
   ·rintro k' ⟨g1,g2,g3⟩
    refine⟨k'+1,⟨rfl,by rw[Ap (by omega) (by omega)];rfl⟩,⟨by omega,g3⟩,by omega⟩
   ·rintro k' ⟨g1,g2,g3⟩
    refine⟨k'+1,⟨rfl,rfl,rfl,by rw[Ap (by omega) (by omega)];rfl,rfl,λ_ _=>rfl,rfl,λ_ _=>⟨rfl,rfl⟩⟩,⟨by omega,g3⟩,by omega⟩
  ·have e:k=c.ns.length:=by omega
   have h8:(Mf c k).r=[]:=List.length_eq_zero_iff.1 (by rw[(hF k).2,hq];rfl)
   subst e
   exact⟨default,by show (Mf c _).q.length=0;rw[hq];rfl,by show (Mf c _).q.length=0;rw[hq];rfl,by show (Mf c _).r.length=0;rw[h8];rfl⟩
 ·rintro k ⟨hk,hq⟩
  refine⟨λh=>?_,λh=>?_⟩
  ·have hk2:k<c.ns.length:=by omega
   refine⟨⟨⟨by omega,by omega⟩,⟨by omega,by omega,by omega⟩,⟨⟨k,0⟩,⟨rfl,hTl k hk,λi hi=>?_,rfl,rfl,rfl,rfl,rfl,rfl,rfl,λ_ _=>rfl,rfl,λ_ _=>⟨rfl,rfl⟩⟩,⟨hk2,rfl,Nat.zero_le _,λt ht=>absurd ht (Nat.not_lt_zero _)⟩,hq⟩,?_⟩,?_⟩
   ·rw[hT _ _ (by have hi:i<((IM c).take k).length:=hi;rw[hTl k hk] at hi;exact hi),show Int.toNat 0=0 from rfl,Nat.zero_add]
   ·rintro y ⟨⟨y1,y2,y3,y4⟩,y5⟩
    have hp:∀j,j<y.i->(bif decide ((gD c.ns (gD ((IM c).take y.i) j).toNat).mi>(Mf c y.i).la) then Eg c { a:=gD ((IM c).take y.i) j,b:=gD (IM c) y.i } else false)=fwP c (Mf c y.i).la (gD (IM c) y.i) (gD (IM c) j):=λj hj=>by rw[hT _ _ hj];rfl
    refine⟨λhj=>⟨⟨by omega,by rw[hTl _ (by omega)];exact hj⟩,⟨by rw[hT _ _ (by omega)];exact hR _ (by omega),λ_=>⟨⟨by rw[hT _ _ (by omega)];exact hR _ (by omega),hR _ y1⟩,⟨hl.2.1.2,hl.2.2⟩,hM⟩⟩,λhc=>?_,λhc=>?_⟩,λhj=>?_⟩
    ·rw[hp _ (by omega)] at hc
     have e:=CQW (by omega) (by omega) y4 hc
     rw[hT _ _ (by omega)]
     have h9:=hF y.i
     refine⟨hR _ y1,⟨⟨Nat.one_pos,(λh=>by cases h),by omega,by omega⟩,Nat.one_pos,(λh=>by cases h),by omega,by omega⟩,y.i,?_,y1,y2,?_⟩
     ·rw[e]
      refine⟨by simp,by simp,rfl,rfl,by simp,λi hi=>?_,by simp,λi hi=>?_⟩
      ·exact BSC _ _ _ (by simpa using hi)
      ·have hi2:i<(Mf c y.i).r.length+1:=by simpa using hi
       show (gD ((Mf c y.i).r ++ [_]) i).a=_/\(gD ((Mf c y.i).r ++ [_]) i).b=_
       rw[BSC _ _ _ hi2]
       cases decide (i<(Mf c y.i).r.length)<;>exact⟨rfl,rfl⟩
     ·rw[e];simp
    ·rw[hp _ (by omega)] at hc
     have e:IntKind.i64.wrap ((y.j:Int)+1)=((y.j+1:Nat):Int):=by rw[Ap (by omega) (by omega)];rfl
     refine⟨⟨y.i,y.j+1⟩,⟨rfl,rfl,λ_ _=>rfl,rfl,e.symm,rfl,rfl,rfl,rfl,rfl,λ_ _=>rfl,rfl,λ_ _=>⟨rfl,rfl⟩⟩,⟨⟨y1,y2,by show y.j+1<=y.i;omega,λt ht=>?_⟩,y5⟩,by show _-(y.j+1)<_;omega⟩
     have ht:t<y.j+1:=ht
     by_cases h2:t=y.j
     ·subst h2;exact hc
     ·exact y4 t (by omega)
    ·have e:=CSZ (by omega) (λt (ht:t<y.i)=>y4 t (by omega))
     refine⟨y.i,?_,y1,y2,?_⟩
     ·rw[e];exact⟨rfl,rfl,rfl,rfl,rfl,λ_ _=>rfl,rfl,λ_ _=>⟨rfl,rfl⟩⟩
     ·rw[e];exact y5
   ·rintro k' ⟨g1,g2,g3⟩
    refine⟨k'+1,⟨rfl,rfl,rfl,by rw[Ap (by omega) (by omega)];rfl,rfl,λ_ _=>rfl,rfl,λ_ _=>⟨rfl,rfl⟩⟩,⟨by omega,g3⟩,by omega⟩
  ·have e:k=c.ns.length:=by omega
   subst e
   exact⟨default,rfl,Nat.le_refl _,λ_ _=>rfl,rfl,Nat.le_refl _,λ_ _=>⟨rfl,rfl⟩⟩
 ·have h9:=hF c.ns.length
  refine⟨⟨λ_=>rfl,by have:(Hm c).q.length<=c.ns.length:=h9.1;omega,hl.2.1.2⟩,⟨hl.2.1.1,hl.2.1.2,hs.1⟩,λhc=>?_,λhc=>?_⟩
  ·have hc:(JD (fwW c)).2=false:=hc
   unfold N5;rw[hc];exact⟨rfl,rfl,rfl,rfl,rfl⟩
  ·have hc:(JD (fwW c)).2=true:=hc
   unfold N5;rw[hc];exact⟨rfl,λ_ _=>rfl,rfl,λ_ _=>⟨rfl,rfl⟩,rfl⟩
theorem BLB:AW Try.prog AXZ (C_few12.spec iT):=okT C_few12 (λ(c:Cht) h=>by
 obtain⟨h1,h2⟩:BTF c:=h
 by_cases h0:AP c=0
 ·have e:C_few12.val c=.tup [.d (GB (N5 c).q),.d (aZ (N5 c).r),.int (N5 c).e]:=by
   show AVal.tup [.d (GB (Jg c).q),.d (aZ (Jg c).r),.int (Jg c).e]=_
   unfold Jg;rw[h0];rfl
  rw[e]
  rcases Nat.eq_zero_or_pos c.ns.length with hz | hp
  ·exact Wk (A:=CDY c) (L:=[]) (keep:=[]) (ren:=[]) (fz:=[]) ANV (by kernel_rfl) (AA ABR (AA CGE (AA BIL (AA R5 AK)))) (CTO c h1 h0 hz)
  ·exact Wk (A:=BRB c) (L:=[]) (keep:=[]) (ren:=[]) (fz:=[]) ANV (by kernel_rfl) (AA ABR (AA CLC (AA BGW (AA BIL (AA R5 AK))))) (CKB c h1 h0 ⟨hp,h2 h0⟩)
 ·have h0':(AP c==0)=false:=by simpa using h0
  have e:C_few12.val c=.tup [.d (GB nilI),.d (aZ nilP),.int (AP c)]:=by
   show AVal.tup [.d (GB (Jg c).q),.d (aZ (Jg c).r),.int (Jg c).e]=_
   unfold Jg;rw[h0'];rfl
  rw[e]
  refine Wk (A:=CEA) (L:=[]) (keep:=[]) (ren:=[]) (fz:=[]) ANV (by kernel_rfl) (AA O1 AK) ?_
  show CFZ c;rw[CMJ]<;> delta BH BK DY EM EO CH AB CJ CE AY FV EB FX EC GY GX GR GG DV FO FU US QR VS Rn AH CK IW AX JE AI BC AV AF IK IN BI Jc Yw N4 AQ JB BB AC BZ CN BF MC AE AO BD HK DD LZ AZ DC BR BE BS BJ AR BQ SZ BV HF CI OC AS BM CY BY CF AG IE CU GW CX OE FQ DF DU HY DR OD FW AT JA OF BO BW AL AN AM ID MR IL NQ Ao MG RQ Bf YH Cm TY Vj Kl Vt Ki fT;simp only[CC,eq_self,implies_true,forall_const,FR]
  simp[h1,h0,nilI,nilP]) _
def C_Stops12:Ctr:={ α:=Cht,xs:=λc=>[.d (Nj c)],val:=λc=>.tup [.d (GB (Jg c).q),.int (Jg c).e],keep:=λ_=>[],pre:=λc=>[BTF c] }
def Z9:Ann:=ann 15 [(AXZ,C_few12.spec iT)]
def BEL(c:Cht):Prop:=ES Try.prog Z9 BGN (AJ BGN) [.d (Nj c)] (AD []) (C_Stops12.val c) [] [] []
abbrev fB a:=Jg (FQ a)
abbrev dF a:=CJ (SA a) (Om a 12)
attribute [go_sem] fB dF
theorem BQV(c:Cht):(BEL c)=(FY (Ki c (λi=>AT i c (AM c i) (AN c i) (AS c i) (AC c i) (AL c i) (AR c i) (AE c i)) (dF c)) (IZ (mD (Jg c)) (mD (fB c))) (Ux (mD (Jg c)) (mD (fB c))) (AY (tH (Jg c)) (tH (fB c)))):=by kernel_rfl
theorem AZR:AW Try.prog AWK (C_Stops12.spec iT):=Je C_Stops12 (λ_=>Z9) [] [] CFO (λ_=>by kernel_rfl) (λ_=>AA BLB AK) (λ(c:Cht) h=>by
 show BEL c;rw[BQV]<;> delta BH BK DY EM EO CH AB CJ CE AY CW EB FX EC GY GX GR GG DV FO FU FP FS US mD tH AH CK IW AX JE AI BC AV AF IK IN AQ JB BB AC BZ CN BF MC AE AO BD HK DD LZ AZ DC BR BE BS BJ AR BQ SZ BV HF CI OC GQ AS BM CY BY EV CF IE CU GW HO CX OE FQ DF DU HY IC DR OD HH FG FW AT IZ JA OF GZ BO BW AL AN AM LJ KO ID MR IL FY SA RQ Bf YH TY Om Vj fB Ux Ki dF;simp only[CC,eq_self,implies_true,forall_const,FR];exact h) (λ_=>Kp rfl rfl) _
def C_Pairs12:Ctr:={ α:=Cht,xs:=λc=>[.d (Nj c)],val:=λc=>.tup [.d (aZ (Jg c).r),.int (Jg c).e],keep:=λ_=>[],pre:=λc=>[BTF c] }
def BEK(c:Cht):Prop:=ES Try.prog Z9 BGM (AJ BGM) [.d (Nj c)] (AD []) (C_Pairs12.val c) [] [] []
theorem BOB(c:Cht):(BEK c)=(FY (Ki c (λi=>AT i c (AM c i) (AN c i) (AS c i) (AC c i) (AL c i) (AR c i) (AE c i)) (dF c)) (RZ (lX (Jg c)) (lX (fB c))) (XM (lX (Jg c)) (lX (fB c))) (AY (tH (Jg c)) (tH (fB c)))):=by kernel_rfl
theorem BBK:AW Try.prog AWZ (C_Pairs12.spec iT):=Je C_Pairs12 (λ_=>Z9) [] [] CGP (λ_=>by kernel_rfl) (λ_=>AA BLB AK) (λ(c:Cht) h=>by
 show BEK c;rw[BOB]<;> delta BH BK DY EM EO CH AB CJ CE AY CW EB FX EC GY GX GR GG DV FO FU US JM JF GA QB lX tH AH CK IW AX JE AI BC AV AF IK IN AQ JB BB AC BZ CN BF MC AE AO BD HK DD LZ AZ DC BR BE BS BJ AR BQ SZ BV HF CI OC AS BM CY BY CF IE CU GW CX OE FQ DF DU HY DR OD LU FG FW LV AT JA OF GZ BO BW AL AN AM ID JI LM MP MR LL NY IL FY PM uI RZ SA RQ XM Bf YH TY Om Vj fB Ki dF;simp only[CC,eq_self,implies_true,forall_const,FR];exact h) (λ_=>Kp rfl rfl) _
end Go.Bal
