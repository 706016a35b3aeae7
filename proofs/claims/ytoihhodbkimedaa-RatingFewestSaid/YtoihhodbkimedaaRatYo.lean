/- Package rating: gaugings that are made of numbers, as a row of one's own. -/
import Derived.Test.YtoihhodbkimedaaRatW
import Derived.Test.YtoihhodbkimedaaRatTo
set_option linter.unusedVariables false
set_option linter.unusedSimpArgs false
namespace Go.Bal
open Go Go.Sym Go.Proofs
def md32 (a : MkI) (f : List (Nat × Nat)) : Shape := { α := One, dflt := default, T := λ _ => ⟨[(5, .bptr 1016 0), (6, .bptr 2000 0), (11, .own 304 3 0 (iL a).length)], [(100, stmH (mG a).s), (1016, zRtg), (2000, rtB (.d (DC (mdR a).b)) (.d (wY (mdR a).l))), (304, .live (rowG (iL a)))]⟩, inv := λ _ => True, meas := λ _ => 0, first := f }
def C_MadeO : Ctr := { CED with val := λ a => .tup [.own 0 3 0 (iL a).length, .d (eRtg (mdR a))], keep := λ a => [(100, stmH (mG a).s), (0, .live (rowG (iL a)))] }
def BHJ (a : MkI) : Ann := { ann 169 [(AOX, C_Next.spec AXB), (AAS, C_Within.spec AQM)] with E := [100], mt := λ id => id == 7 || id == 13 || id == 28 || id == 31, md := λ id => if id = 30 then some (λ k => if k = 2 then 4 else 0) else if id = 31 then some (λ k => if k = 3 then 4 else if k = 4 then 1 else 0) else none, loops := λ id => if id = 4 then some [md4n a, md4o a] else if id = 9 then some [md9n a, md9o a] else if id = 16 then some [CHP a, CGX a] else none, inner := λ gs id => if id = 20 then (if gs.getD 1 0 = 0 then some [CFT a (gs.getD 0 0)] else some [CGU a (gs.getD 0 0)]) else none, cut := λ id => if id = 8 then some [md8 a] else if id = 14 then some [md14 a] else if id = 32 then some [md32 a [(304, 32064)], md32 a [(304, 303)]] else none, cutIn := λ gs id => if id = 17 then some [CFH a (gs.getD 0 0), BYY a (gs.getD 0 0) [(303, 29048)], BYY a (gs.getD 0 0) []] else none }
def BJC (a : MkI) : Prop := CH Try.prog (BHJ a) BFL (AI BFL) (C_MadeO.xs a) (AD (C_MadeO.L a)) (C_MadeO.val a) (C_MadeO.keep a) [(0, 304)] []
abbrev BCB:=λ (f : Ln -> Prop) => ∀ (x : Ln), f x
abbrev AJU:=@List.Mem Ln
abbrev sH:=MkI.s
abbrev BCM:=@Exists KB
abbrev Sj:=MkI.m
abbrev SU:=KB.k
abbrev Iu:=StmB
abbrev BJP:=λ (f : KB -> Prop) => ∀ (x : KB), f x
abbrev BCP:=@Exists KL
abbrev OQ:=KL.k
abbrev BJZ:=λ (f : KL -> Prop) => ∀ (x : KL), f x
abbrev rY:=@Exists KG
abbrev HO:=KG.k
abbrev AJQ:=λ (f : KG -> Prop) => ∀ (x : KG), f x
abbrev AST:=@Exists KP
abbrev LV:=KP.k
abbrev VK:=KP.p
abbrev GS:=KP.t
abbrev BII:=λ (f : KP -> Prop) => ∀ (x : KP), f x
abbrev PZ a:=MG.s (mG a)
abbrev L1 a b:=Dg a (bO b)
abbrev Nm a b:=MO (Wb (mdR a)) b
abbrev Sw a:=GE (Wb (mdR a))
abbrev Tm a:=Rtg.b (mdR a)
abbrev IY a:=MG.l (KG.x a)
abbrev fL a b:=AW a (IY b)
abbrev ATI a:=mL (sH a)
abbrev BBW a:=ML.l (ATI a)
abbrev AUH a b:=MO (BBW a) b
abbrev ABQ a:=GE (BBW a)
abbrev APD a:=mB (sH a)
abbrev OP a:=MB.b (APD a)
abbrev JI a:=MG.s (KG.x a)
abbrev dA a:=DM (IY a)
abbrev oI a b:=RO (FQ a) (BK b)
abbrev AYJ a b:=oI (IY a) b
abbrev oG a b:=AYJ a (HO b)
abbrev kF a b c:=(@Eq MG) (mkGa a b c) (mG a)
abbrev dR a b c:=kF a b (KG.x c)
abbrev ATS a b c:=RO a (Tg b c)
abbrev ASM a b c d:=Iu (ATS a b c) d
abbrev AUE a b:=Ah a (BK b)
abbrev kP a b c d:=ASM a 3 (AUE (Sj b) c) d
abbrev eY a b c:=kP 16 a b (JI c)
abbrev fT a b:=DW a (Sj b)
abbrev dD a b:=fT (BK a) b
abbrev jY a b:=dD (HO a) b
abbrev qD a b c d e f:=AY (Ld a) b c d e f
abbrev sN a b c:=DW a (Tg b c)
abbrev gX a:=MB.a (APD a)
abbrev AMK a:=sN (gX a) 60 (AUE 2 0)
abbrev AMS a:=CA (gX a)
abbrev tA a b c:=DW (AHF a (BK b)) c
abbrev ARE a:=tA (OP a) 0 2
abbrev rG a b c:=(@Eq MB) (mkB a b) (APD c)
abbrev AQU a:=rG 0 (APD a) a
abbrev Gj a:=MB.s (APD a)
abbrev ANF a:=Iu (AUE 3 0) (Gj a)
abbrev AFN a:=qD 0 (ANF a) (AQU a) (ARE a) (AMS a) (AMK a)
abbrev sM a b c d e (f:Ln->Prop):=AY (AFN a) b c d e (BCB f)
abbrev qG a b:=Fc a (Ix (KZ b) 39) (And (XF (Ah (LU b) (KZ b))) (DW (Ah (LU b) (KZ b)) 60)) (Ix (KR b) 59) (CA (Ah (MC b) (KR b))) (Ah (MC b) (KR b)) 199
abbrev AOI a b:=qG (AJU a (BBW b)) a
abbrev ARA a b:=AT (ABQ a) b
abbrev Ip a:=Cu (OP a)
abbrev ARP a:=ARA a (Ip a)
abbrev tM a b c:=(@Eq ML) (mkL a b) (ATI c)
abbrev ALZ a:=tM (FM (Ip a) (Ip a)) (ATI a) a
abbrev ADE a b c d:=ASM a b (BK c) d
abbrev rC a b:=ADE 3 4 a b
abbrev TQ a:=ML.s (ATI a)
abbrev ARG a:=rC (Ip a) (TQ a)
abbrev APL a:=DB (Ip a) (Ip a)
abbrev PR a b c d e f:=sM a (APL b) (ARG c) (ALZ d) (ARP e) (λ i=>AOI i f)
abbrev nA a b:=MT (gX a) b
abbrev Kn a:=GN (OP a)
abbrev mT a b:=aT (Kn a) b
abbrev Gg a b c d:=Zt a (ABQ b) (AUH c d)
abbrev Hq a:=BO (ABQ a)
abbrev VD a:=LL (OP a)
abbrev Zn a b:=MZ (JI a) b
abbrev Wq a b:=NA (JI a) b
abbrev Zm a b:=FZ (JI a) b
abbrev Yt a b:=LQ (JI a) b
abbrev fH a:=FM a 1
abbrev AIN a:=fH (HO a)
abbrev fJ a b c:=fT (AYJ a (AIN b)) c
abbrev eX a b c:=dR a (AIN b) c
abbrev fK a b c:=eY a (AIN b) c
abbrev dC a b:=dD (AIN a) b
abbrev fM a:=QW (HO a)
abbrev oS a b:=AT a (HO b)
abbrev dM a b:=oS (HO a) b
abbrev oK a:=Kx (IY a)
abbrev Nv a:=AK (gX a)
abbrev AGV a b c:=HR (Y3 a) b c
abbrev kR a b c d:=DK a (AGV b c d)
abbrev nW a b c:=kR a b 1 c
abbrev EJ a:=MG.s (KP.x a)
abbrev Gl a:=WA (EJ a) 6
abbrev gN a b:=AUH a (VK b)
abbrev YF a b:=ACE (LU (gN a b)) (gN a b)
abbrev fP a b:=KR (gN a b)
abbrev JA a:=MG.l (KP.x a)
abbrev ASL a b c:=bK (Y3 a) b c
abbrev Yd a b:=ASL a 1 b
abbrev eR a:=Yd (Gl a) 6
abbrev Rg:=FH 1 1
abbrev TO a:=CA (Xk a)
abbrev Tw a b:=VL (OP a) (VK b)
abbrev qB a:=fH (LV a)
abbrev rS a:=QW (LV a)
abbrev fI a:=FP (OP a)
abbrev qI a:=BK (VK a)
abbrev ACN a b c:=WA a (DK b c)
abbrev fX a b:=ACN (JI a) (gX b) 80
abbrev Qh a:=AK (Sj a)
abbrev lP a:=ML.l (KL.x a)
abbrev Fp a b:=MO (lP a) b
abbrev VI a:=GE (lP a)
abbrev IH a:=ML.s (KL.x a)
abbrev Se a:=AIS (IH a) (IH a) 40
abbrev Fq a:=WA (Se a) 60
abbrev Hm a:=Yd (Fq a) 60
abbrev dE a:=WA (Hm a) 200
abbrev On a b:=KT (CX a) b
abbrev QV a:=MB.b (KB.x a)
abbrev JH a:=MB.s (KB.x a)
abbrev TP a:=MB.a (KB.x a)
abbrev Tz a b:=AUE a (SU b)
abbrev dW a:=ASL (JH a) 5 60
attribute [go_sem] BCB AJU sH BCM Sj SU Iu BJP BCP OQ BJZ rY HO AJQ AST LV VK GS BII PZ L1 Nm Sw Tm IY fL ATI BBW AUH ABQ APD OP JI dA oI AYJ oG kF dR ATS ASM AUE kP eY fT dD jY qD sN gX AMK AMS tA ARE rG AQU Gj ANF AFN sM qG AOI ARA Ip ARP tM ALZ ADE rC TQ ARG APL PR nA Kn mT Gg Hq VD Zn Wq Zm Yt fH AIN fJ eX fK dC fM oS dM oK Nv AGV kR nW EJ Gl gN YF fP JA ASL Yd eR Rg TO Tw qB rS fI qI ACN fX Qh lP Fp VI IH Se Fq Hm dE On QV JH TP Tz dW
theorem BMR (a : MkI) : (BJC a) = (IR (Hs (FH 3 3) (FX (sH a)) (sH a)) (BCM (λ i=>AE (DS (Qh a) (CD (TP i)) (ED (SU i) (QI (sH a) 3)) (LQ (JH i) (WA (sH a) 3)) (FZ (JH i) (WA (sH a) 3)) (NA (JH i) (WA (sH a) 3)) (lW (MZ (JH i) (WA (sH a) 3)) (AOS BM AC))) (qD (SU i) (Iu (Tz 3 i) (JH i)) (rG (SU i) (KB.x i) a) (tA (QV i) (SU i) 2) (CA (TP i)) (sN (TP i) 60 (Tz 2 i))) (cR (QV i)))) (BJP (λ i=>YW (And (qD (SU i) (Iu (Tz 3 i) (JH i)) (rG (SU i) (KB.x i) a) (tA (QV i) (SU i) 2) (CA (TP i)) (sN (TP i) 60 (Tz 2 i))) (cR (QV i))) (SU i) (AE (DS (FH 5 5) (FH 60 60) (FX (JH i)) (GZ (JH i)) (ET (JH i)) (ER (JH i)) (PO (JH i))) Np (BCM (λ j=>CJ (AQ (Qh a) (AO (TP j) (kR (TP i) (JH i) 5 60)) (NU (SU j) (SU i)) (LQ (JH j) (dW i)) (FZ (JH j) (dW i)) (NA (JH j) (dW i)) (MZ (JH j) (dW i)) AC (rB BM AC (Sr (Ak (QV j)) AC BM (AG (λ k=>MF k (QV j) (kR (TP i) (JH i) 5 60)))))) (qD (SU j) (Iu (Tz 3 j) (JH j)) (rG (SU j) (KB.x j) a) (tA (QV j) (SU j) 2) (CA (TP j)) (sN (TP j) 60 (Tz 2 j))) (SU j) (KF (SU i))))) (WH (λ j=>DS (AY (Qh a) (AO (gX a) (TP i)) (LQ (Gj a) (JH i)) (FZ (Gj a) (JH i)) (NA (Gj a) (JH i)) (lW (MZ (Gj a) (JH i)) (Ka BM (Ae (OP a)) AC BM))) (Ld 0) (ANF a) (AQU a) (ARE a) (AMS a) (AMK a))))) (BJP (λ i=>YW (qD (SU i) (Iu (Tz 3 i) (JH i)) (rG (SU i) (KB.x i) a) (tA (QV i) (SU i) 2) (CA (TP i)) (sN (TP i) 60 (Tz 2 i))) (SU i) (AE (DS (FH 5 5) (FH 60 60) (FX (JH i)) (GZ (JH i)) (ET (JH i)) (ER (JH i)) (PO (JH i))) (YY (And (GN (QV i)) (CZ 0 (QV i) Dn)) RZ (Cu (QV i)) 8) (BCM (λ j=>CJ (AQ (Qh a) (AO (TP j) (kR (TP i) (JH i) 5 60)) (NU (SU j) (SU i)) (LQ (JH j) (dW i)) (FZ (JH j) (dW i)) (NA (JH j) (dW i)) (MZ (JH j) (dW i)) AC (rB BM AC (Sr (Gm (QV j) (QV i)) AC BM (AG (λ k=>MF k (QV j) (RH k (CX (QV i)) (QV i) k (kR (TP i) (JH i) 5 60))))))) (qD (SU j) (Iu (Tz 3 j) (JH j)) (rG (SU j) (KB.x j) a) (tA (QV j) (SU j) 2) (CA (TP j)) (sN (TP j) 60 (Tz 2 j))) (SU j) (SU i)))) (WH (λ j=>DS (DS (Qh a) (AO (gX a) (TP i)) (LQ (Gj a) (JH i)) (FZ (Gj a) (JH i)) (NA (Gj a) (JH i)) (MZ (Gj a) (JH i)) (rB AC BM (HX (CO (OP a) (QV i)) (EL (Vr (QV i)) (QV i)) (λ k=>SJ k (OP a) k (QV i) (CF k)) AC BM))) (Ld 0) (ANF a) (AQU a) (ARE a) (AMS a) (AMK a))))) (NR (λ i=>QF (AFN a) (AE (BCP (λ j=>AE (DS (Qh a) (Nv a) (CN (OQ j)) (LQ (IH j) (Gj a)) (FZ (IH j) (Gj a)) (NA (IH j) (Gj a)) (Ab (MZ (IH j) (Gj a)) (Kn a) (VD a) AC BM)) (sM a (DB (OQ j) (Ip a)) (rC (OQ j) (IH j)) (tM (FM (Ip a) (OQ j)) (KL.x j) a) (AT (VI j) (OQ j)) (λ k=>qG (AJU k (lP j)) k)) (AT (OQ j) 0))) (BJZ (λ j=>Lc (And (sM a (DB (OQ j) (Ip a)) (rC (OQ j) (IH j)) (tM (FM (Ip a) (OQ j)) (KL.x j) a) (AT (VI j) (OQ j)) (λ k=>qG (AJU k (lP j)) k)) (AT (OQ j) 0)) (hd7 (BK (OQ j)) (fI a)) (AH (AH (FH 40 40) (FX (IH j)) (GZ (IH j)) (AQ (ET (IH j)) (ER (IH j)) (TO (IH j)) (FH 60 60) (FX (Se j)) (GZ (Se j)) (ET (Se j)) (ER (Se j)) (PO (Se j)))) (AJ Rg (FH 60 60) (FX (Fq j)) (GZ (Fq j)) (AQ (ET (Fq j)) (ER (Fq j)) (TO (Fq j)) (FH 200 200) (FX (Hm j)) (GZ (Hm j)) (ET (Hm j)) (ER (Hm j)) (PO (Hm j)))) (Gn 4 Jn 32) (BCP (λ k=>Ns (AQ (Qh a) (Nv a) (BJ (OQ k) (OQ j)) (LQ (IH k) (dE j)) (FZ (IH k) (dE j)) (NA (IH k) (dE j)) (MZ (IH k) (dE j)) AC (mT a (YV (VD a) (HC (VI k)) (λ l=>NT l (VI k) (TW (Fp k l) (QI (IH j) 40)) (UF (Fp k l) (QI (Se j) 60)) (An (Fp k l) (nW (QI (IH j) 40) (Fq j) 60)) (QY (Fp k l) (DK (QI (Se j) 60) (QI (Hm j) 200))))))) (sM a (DB (OQ k) (Ip a)) (rC (OQ k) (IH k)) (tM (FM (Ip a) (OQ k)) (KL.x k) a) (AT (VI k) (OQ k)) (λ l=>qG (AJU l (lP k)) l)) (Ip a) (OQ k) (On (OP a) 3)))) (WH (λ k=>DS (AY (Qh a) (Nv a) (LQ (TQ a) (IH j)) (FZ (TQ a) (IH j)) (NA (TQ a) (IH j)) (lW (MZ (TQ a) (IH j)) (AJC BM (Kn a) (VD a) (ARA a 0)))) (AFN a) (APL a) (ARG a) (ALZ a) (ARP a) (BCB (λ l=>AOI l a)))))) (BJZ (λ j=>Lc (sM a (DB (OQ j) (Ip a)) (rC (OQ j) (IH j)) (tM (FM (Ip a) (OQ j)) (KL.x j) a) (AT (VI j) (OQ j)) (λ k=>qG (AJU k (lP j)) k)) (hd7 (BK (OQ j)) (fI a)) (AH (AH (FH 40 40) (FX (IH j)) (GZ (IH j)) (AQ (ET (IH j)) (ER (IH j)) (TO (IH j)) (FH 60 60) (FX (Se j)) (GZ (Se j)) (ET (Se j)) (ER (Se j)) (PO (Se j)))) (AJ Rg (FH 60 60) (FX (Fq j)) (GZ (Fq j)) (AQ (ET (Fq j)) (ER (Fq j)) (TO (Fq j)) (FH 200 200) (FX (Hm j)) (GZ (Hm j)) (ET (Hm j)) (ER (Hm j)) (PO (Hm j)))) (VC (VI j) 4 Jn 32) (BCP (λ k=>QU (AQ (Qh a) (Nv a) (BJ (OQ k) (OQ j)) (LQ (IH k) (dE j)) (FZ (IH k) (dE j)) (NA (IH k) (dE j)) (MZ (IH k) (dE j)) AC (mT a (YV (VD a) (IM (VI k) (VI j)) (λ l=>NT l (VI k) (TW (Fp k l) (JG l (VI j) (KZ (Fp j l)) (QI (IH j) 40))) (UF (Fp k l) (JG l (VI j) (KR (Fp j l)) (QI (Se j) 60))) (An (Fp k l) (JG l (VI j) (LU (Fp j l)) (nW (QI (IH j) 40) (Fq j) 60))) (QY (Fp k l) (JG l (VI j) (MC (Fp j l)) (DK (QI (Se j) 60) (QI (Hm j) 200)))))))) (sM a (DB (OQ k) (Ip a)) (rC (OQ k) (IH k)) (tM (FM (Ip a) (OQ k)) (KL.x k) a) (AT (VI k) (OQ k)) (λ l=>qG (AJU l (lP k)) l)) (Ip a) (OQ k) (OQ j)))) (WH (λ k=>DS (DS (Qh a) (Nv a) (LQ (TQ a) (IH j)) (FZ (TQ a) (IH j)) (NA (TQ a) (IH j)) (MZ (TQ a) (IH j)) (rB AC BM (IE (Kn a) (VD a) (ARA a (VI j)) (CF (VI j)) (VI j) (AG (λ l=>IZ l (ABQ a) (AUH a l) (Fp j (CF l))))))) (AFN a) (APL a) (ARG a) (ALZ a) (ARP a) (BCB (λ l=>AOI l a))))))) (YO (PR a a a a a a) (AH (DS Rg (Qh a) (FX (TQ a)) (GZ (TQ a)) (ET (TQ a)) (ER (TQ a)) (PO (TQ a))) (rY (λ j=>AE (BI (Nv a) AC BM (ED (HO j) (AGV (TQ a) 1 (Sj a))) (Yt j (Yd (TQ a) (Sj a))) (Zm j (Yd (TQ a) (Sj a))) (Wq j (Yd (TQ a) (Sj a))) (Ab (Zn j (Yd (TQ a) (Sj a))) (Kn a) (VD a) (Hq a) (AG (λ k=>Gg k a a k)))) (LI (PR a a a a a a) (jY j a) (eY a (HO j) j) (dR a (HO j) j) (oG j j) (Sj a)) (oK j))) (AJQ (λ j=>YW (And (LI (PR a a a a a a) (jY j a) (eY a (HO j) j) (dR a (HO j) j) (oG j j) (Sj a)) (oK j)) (HO j) (PF (Hs (AK (DK (gX a) 80)) (FX (JI j)) (JI j)) (AST (λ k=>AE (BI (Nv a) AC BM (EA (LV k) (HO j)) (CN (VK k)) (LQ (EJ k) (fX j a)) (FZ (EJ k) (fX j a)) (AAP (NA (EJ k) (fX j a)) (MZ (EJ k) (fX j a)) AC BM AC (Kn a) (VD a) (AJC (Hq a) (AG (λ l=>Gg l a a l)) (AO (GS k) (QI (JI j) (DK (gX a) 80))) BA))) (And (PR a a a a a a) (AQ (oS (LV k) j) (rS k) (dD (LV k) a) (kP 17 a (LV k) (EJ k)) (kF a (qB k) (Mu (jS a (GS k)) (EJ k) (GS k) (JA k))) (fT (oI (JA k) (LV k)) a) (Ix (GS k) 199) (EL (VK k) (OP a)) (AT (ptM (OP a) (GS k)) (ptK (OP a) (GS k) (Tw a k) (VK k))))) (Kx (JA k)))) (BII (λ k=>YR (And (And (PR a a a a a a) (AQ (oS (LV k) j) (rS k) (dD (LV k) a) (kP 17 a (LV k) (EJ k)) (kF a (qB k) (Mu (jS a (GS k)) (EJ k) (GS k) (JA k))) (fT (oI (JA k) (LV k)) a) (Ix (GS k) 199) (EL (VK k) (OP a)) (AT (ptM (OP a) (GS k)) (ptK (OP a) (GS k) (Tw a k) (VK k))))) (Kx (JA k))) (RW (KN (qI k) (fI a)) (qI k) (fI a)) (Ov (KN (qI k) (fI a)) (EM (OP a) (VK k)) (GS k)) (AST (λ l=>VB (BI (Nv a) AC BM (EA (LV l) (LV k)) (BJ (VK l) (VK k)) (LQ (EJ l) (EJ k)) (FZ (EJ l) (EJ k)) (AAP (NA (EJ l) (EJ k)) (MZ (EJ l) (EJ k)) AC BM AC (Kn a) (VD a) (AJC (Hq a) (AG (λ m=>Gg m a a m)) (AO (GS l) (GS k)) BA))) (And (PR a a a a a a) (AQ (oS (LV l) j) (rS l) (dD (LV l) a) (kP 17 a (LV l) (EJ l)) (kF a (qB l) (Mu (jS a (GS l)) (EJ l) (GS l) (JA l))) (fT (oI (JA l) (LV l)) a) (Ix (GS l) 199) (EL (VK l) (OP a)) (AT (ptM (OP a) (GS l)) (ptK (OP a) (GS l) (Tw a l) (VK l))))) (Kx (JA l)) (Tw a l) (Tw a k))) (BC (RX (VK k) (ABQ a)) (RC (KN (Ht (fP a k) (YF a k) (gN a k) (GS k)) 0) (ZR (Ht (fP a k) (YF a k) (gN a k) (GS k)) (TH 1000 (YF a k)))) (rY (λ l=>AE (BI (Nv a) AC BM (EA (HO l) (LV k)) (Yt l (EJ k)) (Zm l (EJ k)) (Wq l (EJ k)) (Ab (Zn l (EJ k)) (Kn a) (VD a) (Hq a) (AG (λ m=>Gg m a a m)))) (DS (dM l j) (fM l) (PR a a a a a a) (dC l a) (fK a l l) (eX a l l) (fJ l l a)) (oK l))) (AH (lM (YF a k)) (AJ (FH 6 6) (FX (EJ k)) (GZ (EJ k)) (ET (EJ k)) (AQ (ER (EJ k)) (TO (EJ k)) Rg (FH 6 6) (FX (Gl k)) (GZ (Gl k)) (ET (Gl k)) (ER (Gl k)) (PO (Gl k)))) (Gn 3 Mg 24) (rY (λ l=>CJ (nA a (Uv AC (CQ (IY l) 1) (EA (HO l) (LV k)) (Yt l (eR k)) (Zm l (eR k)) (Wq l (eR k)) (Zn l (eR k)) (mT a (HX (VD a) (Hq a) (λ m=>Gg m a a m) (CQ (IY l) 1) (AG (λ m=>CL m (IY l) (DE (IY l) m (GS k)) (DG (IY l) m (sK 0 (TA (DR (jR (Ht (fP a k) (YF a k) (gN a k) (GS k)) (YF a k))) (QI (EJ k) 6)))) (DF (IY l) m (nW (DR (jR (Ht (fP a k) (YF a k) (gN a k) (GS k)) (YF a k))) (Gl k) 6)))))))) (DS (dM l j) (fM l) (PR a a a a a a) (dC l a) (fK a l l) (eX a l l) (fJ l l a)) 0 (dA l))))))) (Bu (AJQ (λ k=>CG (And (DS (dM k j) (fM k) (PR a a a a a a) (dC k a) (fK a k k) (eX a k k) (fJ k k a)) (oK k)) (rY (λ l=>VB (BI (Nv a) AC BM (NU (HO l) (HO k)) (Yt l (JI k)) (Zm l (JI k)) (Wq l (JI k)) (Ab (Zn l (JI k)) (Kn a) (VD a) (Hq a) (AG (λ m=>Gg m a a m)))) (LI (PR a a a a a a) (jY l a) (eY a (HO l) l) (dR a (HO l) l) (oG l l) (Sj a)) (oK l) (HO l) (HO j))))) (AJQ (λ k=>CG (Kc (DS (dM k j) (fM k) (PR a a a a a a) (dC k a) (fK a k k) (eX a k k) (fJ k k a)) 0 (dA k)) (rY (λ l=>CJ (nA a (Uv AC (fL (IY l) k) (NU (HO l) (HO k)) (Yt l (JI k)) (Zm l (JI k)) (Wq l (JI k)) (Zn l (JI k)) (mT a (HX (VD a) (Hq a) (λ m=>Gg m a a m) (fL (IY l) k) (BE (IY l) (IY k)))))) (Kc (LI (PR a a a a a a) (jY l a) (eY a (HO l) l) (dR a (HO l) l) (oG l l) (Sj a)) 0 (dA l)) (HO l) (HO j))))))) (Bu (And (Gn 3 (aD EF 3) 24) (LP (BI AC (CQ (iL a) 1) (LQ (PZ a) (JI j)) (FZ (PZ a) (JI j)) (NA (PZ a) (JI j)) (MZ (PZ a) (JI j)) AC (aT (Ae (Tm a)) (HX (Ae (Tm a)) (HC (Sw a)) (λ k=>NT k (Sw a) (CD (KZ (Nm a k))) (CD (KR (Nm a k))) (An (Nm a k) 1) (QY (Nm a k) 1)) (CQ (iL a) 1) (AG (λ k=>CL k (iL a) (DE (iL a) k 1) (DG (iL a) k 1) (DF (iL a) k 1)))))))) (Kq (AH AC (AS (iL a)) (GN (Tm a)) (KJ (LL (Tm a)) (BO (Sw a)) (AG (λ k=>Zt k (Sw a) (Nm a k))) (BO (VZ (PZ a))) (L1 (VZ (PZ a)) (PZ a)) (ET (PZ a)) (ER (PZ a)) (AS (iL a)) (λ k=>HD k (iL a)))))))) (AJQ (λ j=>YW (Kc (LI (PR a a a a a a) (jY j a) (eY a (HO j) j) (dR a (HO j) j) (oG j j) (Sj a)) 0 (dA j)) (HO j) (PF (Hs (AK (DK (gX a) 80)) (FX (JI j)) (JI j)) (AST (λ k=>VB (nA a (AQ AC (fL (JA k) j) (EA (LV k) (HO j)) (CN (VK k)) (LQ (EJ k) (fX j a)) (FZ (EJ k) (fX j a)) (NA (EJ k) (fX j a)) (MZ (EJ k) (fX j a)) (rB AC BM (AJ (Kn a) (VD a) (Hq a) (AG (λ l=>Gg l a a l)) (Ka (AO (GS k) (QI (JI j) (DK (gX a) 80))) BA (fL (JA k) j) (BE (JA k) (IY j))))))) (PR a a a a a a) (AQ (oS (LV k) j) (rS k) (dD (LV k) a) (kP 17 a (LV k) (EJ k)) (kF a (qB k) (Mu (jS a (GS k)) (EJ k) (GS k) (JA k))) (fT (oI (JA k) (LV k)) a) (Ix (GS k) 199) (EL (VK k) (OP a)) (AT (ptM (OP a) (GS k)) (ptK (OP a) (GS k) (Tw a k) (VK k)))) 0 (DM (JA k)))) (BII (λ k=>YR (Kc (And (PR a a a a a a) (AQ (oS (LV k) j) (rS k) (dD (LV k) a) (kP 17 a (LV k) (EJ k)) (kF a (qB k) (Mu (jS a (GS k)) (EJ k) (GS k) (JA k))) (fT (oI (JA k) (LV k)) a) (Ix (GS k) 199) (EL (VK k) (OP a)) (AT (ptM (OP a) (GS k)) (ptK (OP a) (GS k) (Tw a k) (VK k))))) 0 (DM (JA k))) (RW (KN (qI k) (fI a)) (qI k) (fI a)) (Ov (KN (qI k) (fI a)) (EM (OP a) (VK k)) (GS k)) (AST (λ l=>CJ (nA a (AQ AC (AW (JA l) (JA k)) (EA (LV l) (LV k)) (BJ (VK l) (VK k)) (LQ (EJ l) (EJ k)) (FZ (EJ l) (EJ k)) (NA (EJ l) (EJ k)) (MZ (EJ l) (EJ k)) (rB AC BM (AJ (Kn a) (VD a) (Hq a) (AG (λ m=>Gg m a a m)) (Ka (AO (GS l) (GS k)) BA (AW (JA l) (JA k)) (BE (JA l) (JA k))))))) (Kc (And (PR a a a a a a) (AQ (oS (LV l) j) (rS l) (dD (LV l) a) (kP 17 a (LV l) (EJ l)) (kF a (qB l) (Mu (jS a (GS l)) (EJ l) (GS l) (JA l))) (fT (oI (JA l) (LV l)) a) (Ix (GS l) 199) (EL (VK l) (OP a)) (AT (ptM (OP a) (GS l)) (ptK (OP a) (GS l) (Tw a l) (VK l))))) 0 (DM (JA l))) (Tw a l) (Tw a k))) (BC (RX (VK k) (ABQ a)) (RC (KN (Ht (fP a k) (YF a k) (gN a k) (GS k)) 0) (ZR (Ht (fP a k) (YF a k) (gN a k) (GS k)) (TH 1000 (YF a k)))) (rY (λ l=>CJ (nA a (Uv AC (AW (IY l) (JA k)) (EA (HO l) (LV k)) (Yt l (EJ k)) (Zm l (EJ k)) (Wq l (EJ k)) (Zn l (EJ k)) (mT a (HX (VD a) (Hq a) (λ m=>Gg m a a m) (AW (IY l) (JA k)) (BE (IY l) (JA k)))))) (DS (dM l j) (fM l) (PR a a a a a a) (dC l a) (fK a l l) (eX a l l) (fJ l l a)) 0 (dA l))) (AH (lM (YF a k)) (AJ (FH 6 6) (FX (EJ k)) (GZ (EJ k)) (ET (EJ k)) (AQ (ER (EJ k)) (TO (EJ k)) Rg (FH 6 6) (FX (Gl k)) (GZ (Gl k)) (ET (Gl k)) (ER (Gl k)) (PO (Gl k)))) (YY (Jz (JA k) (CY 0 (JA k) (BO 3))) Mg (NS (JA k)) 24) (rY (λ l=>CJ (nA a (Uv AC (CQ (IY l) (NS (JA k))) (EA (HO l) (LV k)) (Yt l (eR k)) (Zm l (eR k)) (Wq l (eR k)) (Zn l (eR k)) (mT a (HX (VD a) (Hq a) (λ m=>Gg m a a m) (CQ (IY l) (NS (JA k))) (AG (λ m=>CL m (IY l) (DE (IY l) m (Ta m (JA k) (AX (JA k) m) (GS k))) (DG (IY l) m (Ta m (JA k) (BH (JA k) m) (sK 0 (TA (DR (jR (Ht (fP a k) (YF a k) (gN a k) (GS k)) (YF a k))) (QI (EJ k) 6))))) (DF (IY l) m (Ta m (JA k) (BN (JA k) m) (nW (DR (jR (Ht (fP a k) (YF a k) (gN a k) (GS k)) (YF a k))) (Gl k) 6))))))))) (DS (dM l j) (fM l) (PR a a a a a a) (dC l a) (fK a l l) (eX a l l) (fJ l l a)) 0 (dA l))))))) (Bu (AJQ (λ k=>CG (And (DS (dM k j) (fM k) (PR a a a a a a) (dC k a) (fK a k k) (eX a k k) (fJ k k a)) (oK k)) (rY (λ l=>VB (BI (Nv a) AC BM (NU (HO l) (HO k)) (Yt l (JI k)) (Zm l (JI k)) (Wq l (JI k)) (Ab (Zn l (JI k)) (Kn a) (VD a) (Hq a) (AG (λ m=>Gg m a a m)))) (LI (PR a a a a a a) (jY l a) (eY a (HO l) l) (dR a (HO l) l) (oG l l) (Sj a)) (oK l) (HO l) (HO j))))) (AJQ (λ k=>CG (Kc (DS (dM k j) (fM k) (PR a a a a a a) (dC k a) (fK a k k) (eX a k k) (fJ k k a)) 0 (dA k)) (rY (λ l=>CJ (nA a (Uv AC (fL (IY l) k) (NU (HO l) (HO k)) (Yt l (JI k)) (Zm l (JI k)) (Wq l (JI k)) (Zn l (JI k)) (mT a (HX (VD a) (Hq a) (λ m=>Gg m a a m) (fL (IY l) k) (BE (IY l) (IY k)))))) (Kc (LI (PR a a a a a a) (jY l a) (eY a (HO l) l) (dR a (HO l) l) (oG l l) (Sj a)) 0 (dA l)) (HO l) (HO j))))))) (Bu (FA (MJ (FQ (IY j))) (And (YY (Jz (IY j) (CY 0 (IY j) (BO 3))) (aD EF 3) (NS (IY j)) 24) (LP (BI AC (CQ (iL a) (NS (IY j))) (LQ (PZ a) (JI j)) (FZ (PZ a) (JI j)) (NA (PZ a) (JI j)) (MZ (PZ a) (JI j)) AC (aT (Ae (Tm a)) (HX (Ae (Tm a)) (HC (Sw a)) (λ k=>NT k (Sw a) (CD (KZ (Nm a k))) (CD (KR (Nm a k))) (An (Nm a k) 1) (QY (Nm a k) 1)) (CQ (iL a) (NS (IY j))) (AG (λ k=>CL k (iL a) (DE (iL a) k (Ta k (IY j) (AX (IY j) k) 1)) (DG (iL a) k (Ta k (IY j) (BH (IY j) k) 1)) (DF (iL a) k (Ta k (IY j) (BN (IY j) k) 1))))))))) (LP (BI AC (fL (iL a) j) (LQ (PZ a) (JI j)) (FZ (PZ a) (JI j)) (NA (PZ a) (JI j)) (MZ (PZ a) (JI j)) AC (aT (CO (Tm a) (OP a)) (HX (CE (Tm a) (OP a)) (AT (Sw a) (ABQ a)) (λ k=>IZ k (Sw a) (Nm a k) (AUH a k)) (fL (iL a) j) (BE (iL a) (IY j))))))) (Kq (AH AC (AS (iL a)) (GN (Tm a)) (KJ (LL (Tm a)) (BO (Sw a)) (AG (λ k=>Zt k (Sw a) (Nm a k))) (BO (VZ (PZ a))) (L1 (VZ (PZ a)) (PZ a)) (ET (PZ a)) (ER (PZ a)) (AS (iL a)) (λ k=>HD k (iL a))))))))))))) := by kernel_rfl
theorem BUS (a : MkI) (h : preM a) : BJC a := by
 rw [BMR]<;> delta KY hd5 hd7 Dc GH HK FK KZ KR LU MC KN PN FA AO ZR AT CX AG CG CM EM BK DB DW DT QP PD RO FM PQ Ah YC WQ jR Tg TU DM GP EF KT WH NR pM Ie Ej Ll BCB AJU GE MO ARR AAR Wb bO bX Xk gV pN sH BCM Sj SU Iu BJP BCP OQ BJZ rY HO AJQ AST LV VK GS BII KK AE IH VZ KC yB FQ AJ AP DR AK Bu BO JQ Ia ABL Ep rB jM AOS Sr Ka AJC AJV DK AX APD AQ AH AIS BH TA CY BN CL CZ CA KF DP FT ATI xE GI AC BB ED OP IG WA Y3 HI AAP Uv CQ DF FP MX BBW CF FC NT DG EN AW Cu AY ZJ Ma AUH JI LW QI ATS CJ gX DE DN AS EO EA ZI Ip EJ DS IY DY GN CD MY QJ LI Kc ASM JM EU FE AAW DV HP Ir BM FG CE MK CO AUE KJ UQ QF pL gN JG ASL JE AAI HG JH Vs IE pI VL MZ cH Fc ABQ JA LQ Se Ix FB HD LL Ur Mb FH BE Zw NA An IK XF TQ Gj BA AHF Px BC lP BI oA Fv QY UF ADE NY Yd Df RW Dg TW ER SI RU SF BJ ET SK FZ GZ qU Ld IM sN ACE fH AMS Bv Wp QW rG tA HC TH AIN Gr qD TN Fq Cz fT EL NS lW FX Db tM AQU ANF CN ARA GA AMK ARE APL QV RC UX UY ZT PO SE ARP MT PZ VI Dl HX rC Yu oI Dk TP Eh ACY NU ALZ kF AFN MF qG sM dD RZ VD aD On Gl Hm IR TO Zt Ti ARG AOI Kn Mw Lc Ov AGV YF Fp fP LP ACN AYJ kP Kx MJ YY RH Ns kR PF dR Gi PR aT YO Hq Ta cR RX Nm IZ Zh oS Qa Xf eY Td Gg YW Nv Tm Sw Ae Ub SJ QU Yl Qh Hw YV Jn Tz Tw K2 Ak Ab VB Zm L1 Gm fM fI VC Wq dA nW Mg Rg Yt Dn dM Zj Zn Gn dC fL oK Np dE eR Kq YR Ht fK fJ mT oG eX jY nA Jz rS nD lM qB Vr fX dW qI Hs; simp only [CC, eq_self, implies_true, forall_const, BWE, Int.ofNat_lt]
 obtain ⟨hs, hm1, hm2⟩ := h
 have hn := NF hs (by omega) 3
 have hn2 := hn.2 (by omega)
 have hk0 : ((AV a.s 3).toNat : Int) = AV a.s 3 := Int.toNat_of_nonneg hn.1
 have i0 : pU a ⟨(AV a.s 3).toNat, ⟨BG a.s 3, 0, []⟩⟩ := ⟨by show (AV a.s 3).toNat <= 2; omega, (hs.next (by omega) 3).mono (by show _ <= 3 - (((AV a.s 3).toNat : Nat) : Int); omega), rfl, by show ((0 : Nat) : Int) + ((AV a.s 3).toNat : Nat) <= 2; omega, Int.le_refl _, by show 0 <= 60 * (2 - (((AV a.s 3).toNat : Nat) : Int)); omega⟩
 have w1 : ∀ {y : KB}, pU a y -> 0 < y.k -> ((y.k - 1 : Nat) : Int) = IntKind.i64.wrap ((y.k : Int) - 1) := λ {y} hy hk => by
  have := hy.1
  rw [LS (by omega) (by omega)]; omega
 refine ⟨⟨⟨rfl, hs.used.1⟩, ⟨⟨_, ⟨BG a.s 3, 0, []⟩⟩, ⟨rfl, hk0, rfl, λ _ _ => rfl, rfl, rfl⟩, i0, rfl⟩, λ y ⟨hy, hyb⟩ => ⟨λ hk => ?_, λ hk => ?_⟩, λ y hy => ⟨λ hk => ?_, λ hk => ?_⟩⟩, λ hB => ⟨⟨⟨⟨0, ⟨(mB a.s).s, []⟩⟩, ⟨rfl, rfl, λ _ _ => rfl, rfl, rfl⟩, ?_, rfl⟩, λ y ⟨hy, hy0⟩ => ⟨λ hk => ?_, λ hk => ?_⟩, λ y hy => ⟨λ hk => ?_, λ hk => ?_⟩⟩, λ hL => ?_⟩⟩
 ·have hk : 0 < y.k := by omega
  have hy2 : pU a y := hy
  have ey : stpB y.x = ⟨bK y.x.s 5 60, wr (y.x.a + HR y.x.s 5 60), [wr (y.x.a + HR y.x.s 5 60)]⟩ := by unfold stpB; rw [hyb]; rfl
  refine ⟨⟨rfl, rfl, hy2.2.1.used.1⟩, ⟨by omega, by omega, by omega, by omega, by omega⟩, ⟨y.k - 1, stpB y.x⟩, ?_, BFW hy2 hk, by show y.k - 1 < y.k + 1; omega⟩
  rw [ey]
  exact ⟨rfl, w1 hy2 hk, rfl, λ _ _ => rfl, rfl, rfl, rfl, rfl, λ i hi => by rw [show i = 0 by have h1 : i < 1 := hi; omega]; rfl⟩
 ·obtain ⟨e1, e2⟩ := BOL (show pU a y from hy) (by omega)
  exact ⟨default, by rw [<- e1, hyb]; exact ⟨rfl, rfl, λ _ _ => rfl, rfl, rfl, rfl⟩, e2⟩
 ·have hk : 0 < y.k := by omega
  have hy2 : pU a y := hy
  have := hy2.2.2.2.1
  refine ⟨⟨rfl, rfl, hy2.2.1.used.1⟩, ⟨by omega, λ h => (by cases h), by omega, by omega⟩, ⟨y.k - 1, stpB y.x⟩, ⟨rfl, w1 hy2 hk, rfl, λ _ _ => rfl, rfl, rfl, ?_, ?_, BBT _ _⟩, BFW hy2 hk, by show y.k - 1 < y.k; omega⟩ <;> (show (y.x.b ++ [_]).length = _; simp)
 ·obtain ⟨e1, e2⟩ := BOL (show pU a y from hy) (by omega)
  exact ⟨default, by rw [<- e1]; exact ⟨rfl, rfl, λ _ _ => rfl, rfl, rfl, rfl, Nat.le_refl _, λ _ _ => rfl⟩, e2⟩
 ·exact ⟨hB, Nat.zero_le _, (show StmB (3 - ((0 : Nat) : Int)) (mB a.s).s from hB.2.1).mono (by show _ <= 3 + 4 * ((0 : Nat) : Int); omega), rfl, rfl, λ z hz => by cases hz⟩
 ·have hy2 : inv9 a y := hy
  have hk : y.k <= (mB a.s).b.length := by omega
  have s0 := hy2.2.2.1
  have s1 := s0.next (by omega) 40
  have s2 := s1.next (by omega) 60
  have s3 := VO s2 (by omega) 1 60
  have hl : y.x.l = [] := List.eq_nil_of_length_eq_zero (by rw [hy2.2.2.2.2.1]; exact hy0)
  have ey : stpL y.x = ⟨lnS4 y.x.s, [mkLn y.x.s]⟩ := by unfold stpL; rw [hl]; rfl
  refine ⟨⟨rfl, s0.used.1, rfl, s1.used.1⟩, ⟨rfl, rfl, s2.used.1, rfl, s3.used.1⟩, ⟨by omega, by omega, by omega, by omega, by omega⟩, ⟨y.k + 1, stpL y.x⟩, ?_, BEM hy2 hk, by show (mB a.s).b.length + 1 - (y.k + 1) < _; omega⟩
  rw [ey]
  exact ⟨(EQ (by omega)).symm, rfl, λ _ _ => rfl, rfl, rfl, rfl, rfl, oneL _⟩
 ·have hy0 : y.k = 0 := hy0
  omega
 ·have hy2 : inv9 a y := hy
  have hk : y.k <= (mB a.s).b.length := by omega
  have hb : (((mB a.s).b.length : Nat) : Int) + ((0 : Nat) : Int) <= 2 := hB.2.2.2.1
  have s0 := hy2.2.2.1
  have s1 := s0.next (by omega) 40
  have s2 := s1.next (by omega) 60
  have s3 := VO s2 (by omega) 1 60
  have hl := hy2.2.2.2.2.1
  refine ⟨⟨rfl, s0.used.1, rfl, s1.used.1⟩, ⟨rfl, rfl, s2.used.1, rfl, s3.used.1⟩, ⟨by omega, λ h => (by cases h), by omega, by omega⟩, ⟨y.k + 1, stpL y.x⟩, ⟨(EQ (by omega)).symm, rfl, λ _ _ => rfl, rfl, rfl, ?_, ?_, AIQ _ _⟩, BEM hy2 hk, by show (mB a.s).b.length + 1 - (y.k + 1) < _; omega⟩ <;> (show (y.x.l ++ [_]).length = _; simp)
 ·obtain ⟨e1, e2⟩ := CAV (show inv9 a y from hy) (by omega)
  exact ⟨default, by rw [<- e1]; exact ⟨rfl, λ _ _ => rfl, rfl, rfl, rfl, Nat.le_refl _, λ _ _ => ⟨rfl, rfl, rfl, rfl⟩⟩, e2⟩
 ·have hF : fin9 a := hL
  obtain ⟨g1, g2, g3, g4, g5⟩ := AUI hF
  have hw := bT g5 (by omega) (lo := 1) (hi := a.m) (by omega) hm1 (by omega)
  have hwk : ((HR (mL a.s).s 1 a.m).toNat : Int) = HR (mL a.s).s 1 a.m := Int.toNat_of_nonneg (by omega)
  have i16 : xO a (HR (mL a.s).s 1 a.m).toNat (mG0 a) := ⟨hF, by omega, (VO g5 (by omega) 1 a.m).mono (by omega), rfl, by show ((0 : Nat) : Int) + _ <= _; omega⟩
  have hwr : IntKind.i64.wrap ((mB a.s).a + 80) = hiG a := rfl
  simp only [hwr]
  have nx : ∀ {m : Nat} {z : KG}, sT a m z -> xO a (z.k - 1) z.x /\ z.k - 1 < m /\ ((z.k - 1 : Nat) : Int) = IntKind.i64.wrap ((z.k : Int) - 1) := λ {m} {z} h => by
   obtain ⟨h1, h2, h3⟩ := h
   have h4 : ((z.k - 1 : Nat) : Int) <= a.m := h3.2.1
   exact ⟨h3, by omega, by rw [LS (by omega) (by omega)]; omega⟩
  have em : ∀ {y : MG}, y = mG a -> y.l = [] -> iL a = [⟨1, 1, 1⟩] /\ mdR a = ⟨[], [⟨0, 0, 1, 1⟩]⟩ := λ {y} h h2 => by
   unfold iL mdR; rw [<- h, h2]; exact ⟨rfl, rfl⟩
  have fl : ∀ {y : MG}, y = mG a -> 0 < y.l.length -> iL a = y.l /\ mdR a = ⟨(mB a.s).b, (mL a.s).l⟩ := λ {y} h h2 => by
   unfold iL mdR; rw [<- h, decide_eq_false (by omega)]; exact ⟨rfl, rfl⟩
  refine ⟨⟨rfl, g5.used.1⟩, ⟨⟨_, mG0 a⟩, ⟨hwk, rfl, λ _ _ => rfl, rfl, rfl⟩, i16, rfl⟩, λ y ⟨hy, hyl⟩ => ⟨λ hk => ⟨⟨(show xO a y.k y.x from hy).2.2.1.used.1, ⟨⟨y.k, ⟨BG y.x.s (hiG a), y.x.l⟩, AV y.x.s (hiG a), 0⟩, ⟨rfl, rfl, rfl, λ _ _ => rfl, rfl, rfl, rfl⟩, G_in hy hm2 (by omega), hyl⟩, λ z ⟨hz, hzl⟩ => ⟨λ _ => ⟨by omega, by omega⟩, λ hp => ?_, λ hp => ?_⟩⟩, λ z ⟨hz, hzl⟩ => ?_, λ z ⟨hz, hzl⟩ => ?_⟩, λ hk => ?_⟩, λ y ⟨hy, hyl⟩ => ⟨λ hk => ?_, λ hk => ?_⟩⟩
  ·exact ⟨⟨z.k, z.x, z.t, z.p + 1⟩, ⟨rfl, (EQ (by omega)).symm, rfl, λ _ _ => rfl, rfl, rfl, rfl⟩, ⟨G_up hz hp, hzl⟩, by have := (BQQ hp).1; show (mB a.s).b.length - (z.p + 1) < _; omega⟩
  ·obtain ⟨e, e2⟩ := G_at hz hp
   have ho := CAG hz hm2
   have okl := BTO hz
   have hI : xZ a _ z := hz
   have zs := hI.2.2.2.2.1
   have zs1 := zs.next (by omega) 6
   have zl : (z.x.l.length : Int) + z.k <= a.m := hI.2.2.2.2.2.2.1
   have bw := (ANX okl hI.2.2.2.2.2.2.2.1).1
   rw [<- e]
   refine ⟨⟨by omega, by omega⟩, λ hu => ?_, λ hu => ?_⟩
   ·have hu : (bif decide (pR (jS a z.t) z.t < 0) then true else decide (pR (jS a z.t) z.t > wr (1000 * xD (jS a z.t)))) = true := hu
    have es : Mu (jS a z.t) z.x.s z.t z.x.l = z.x := by unfold Mu; rw [hu]; rfl
    rw [es] at ho
    exact ⟨⟨z.k, z.x⟩, ⟨rfl, rfl, λ _ _ => rfl, rfl, rfl⟩, ho, hzl⟩
   ·have hu : (bif decide (pR (jS a z.t) z.t < 0) then true else decide (pR (jS a z.t) z.t > wr (1000 * xD (jS a z.t)))) = false := hu
    have es : Mu (jS a z.t) z.x.s z.t z.x.l = ⟨bK (BG z.x.s 6) 1 6, [oM (jS a z.t) z.x.s z.t]⟩ := by unfold Mu; rw [hu, show z.x.l = [] from hzl]; rfl
    rw [es] at ho
    refine ⟨λ h0 => ?_, ⟨rfl, zs.used.1, rfl, rfl, zs1.used.1⟩, ⟨by omega, by omega, by omega, by omega, by omega⟩, ⟨z.k, ⟨bK (BG z.x.s 6) 1 6, [oM (jS a z.t) z.x.s z.t]⟩⟩, ⟨rfl, rfl, rfl, λ _ _ => rfl, rfl, rfl, rfl, λ i hi => by rw [show i = 0 by have h1 : i < 1 := hi; omega]; exact ⟨rfl, rfl, rfl⟩⟩, ho, Nat.one_pos⟩
    have h0 : xD (jS a z.t) = 0 := h0
    have := okl.2.1; omega
  ·obtain ⟨n1, n2, n3⟩ := nx (show sT a _ z from hz)
   exact ⟨⟨z.k - 1, z.x⟩, ⟨n3, rfl, λ _ _ => rfl, rfl, rfl⟩, ⟨n1, hzl⟩, n2⟩
  ·obtain ⟨n1, n2, n3⟩ := nx (show sT a _ z from hz)
   exact ⟨⟨z.k - 1, z.x⟩, ⟨rfl, n3, rfl, λ _ _ => rfl, rfl, rfl, rfl, λ _ _ => ⟨rfl, rfl, rfl⟩⟩, ⟨n1, hzl⟩, n2⟩
  ·have hI : xO a y.k y.x := hy
   have e0 : y.x = mG a := by
    have := hI.2.2.2.1
    rw [show y.k = 0 by omega] at this; exact this
   obtain ⟨m1, m2⟩ := em e0 hyl
   rw [m1, m2, <- e0]
   refine ⟨⟨by omega, by omega, by omega, by omega⟩, default, rfl, rfl, λ _ _ => rfl, rfl, rfl, rfl, rfl, rfl, λ i hi => ?_, rfl, λ i hi => ?_⟩
   ·rw [show i = 0 by have h1 : i < 1 := hi; omega]; exact ⟨rfl, rfl, rfl, rfl⟩
   ·rw [show i = 0 by have h1 : i < 1 := hi; omega]; exact ⟨rfl, rfl, rfl⟩
  ·have hI : xO a y.k y.x := hy
   refine ⟨⟨hI.2.2.1.used.1, ⟨⟨y.k, ⟨BG y.x.s (hiG a), y.x.l⟩, AV y.x.s (hiG a), 0⟩, ⟨rfl, rfl, rfl, rfl, λ _ _ => rfl, rfl, rfl, rfl, rfl, λ _ _ => ⟨rfl, rfl, rfl⟩⟩, G_in hy hm2 (by omega), hyl⟩, λ z ⟨hz, hzl⟩ => ⟨λ _ => ⟨by omega, by omega⟩, λ hp => ?_, λ hp => ?_⟩⟩, λ z ⟨hz, hzl⟩ => ?_, λ z ⟨hz, hzl⟩ => ?_⟩
   ·exact ⟨⟨z.k, z.x, z.t, z.p + 1⟩, ⟨rfl, rfl, (EQ (by omega)).symm, rfl, λ _ _ => rfl, rfl, rfl, rfl, rfl, λ _ _ => ⟨rfl, rfl, rfl⟩⟩, ⟨G_up hz hp, hzl⟩, by have := (BQQ hp).1; show (mB a.s).b.length - (z.p + 1) < _; omega⟩
   ·obtain ⟨e, e2⟩ := G_at hz hp
    have ho := CAG hz hm2
    have okl := BTO hz
    have hI : xZ a _ z := hz
    have zs := hI.2.2.2.2.1
    have zs1 := zs.next (by omega) 6
    have zl : (z.x.l.length : Int) + z.k <= a.m := hI.2.2.2.2.2.2.1
    have bw := (ANX okl hI.2.2.2.2.2.2.2.1).1
    rw [<- e]
    refine ⟨⟨by omega, by omega⟩, λ hu => ?_, λ hu => ?_⟩
    ·have hu : (bif decide (pR (jS a z.t) z.t < 0) then true else decide (pR (jS a z.t) z.t > wr (1000 * xD (jS a z.t)))) = true := hu
     have es : Mu (jS a z.t) z.x.s z.t z.x.l = z.x := by unfold Mu; rw [hu]; rfl
     rw [es] at ho
     exact ⟨⟨z.k, z.x⟩, ⟨rfl, rfl, rfl, λ _ _ => rfl, rfl, rfl, rfl, λ _ _ => ⟨rfl, rfl, rfl⟩⟩, ho, hzl⟩
    ·have hu : (bif decide (pR (jS a z.t) z.t < 0) then true else decide (pR (jS a z.t) z.t > wr (1000 * xD (jS a z.t)))) = false := hu
     have es : Mu (jS a z.t) z.x.s z.t z.x.l = ⟨bK (BG z.x.s 6) 1 6, z.x.l ++ [oM (jS a z.t) z.x.s z.t]⟩ := by unfold Mu; rw [hu]; rfl
     rw [es] at ho
     refine ⟨λ h0 => ?_, ⟨rfl, zs.used.1, rfl, rfl, zs1.used.1⟩, ⟨by omega, λ h => (by cases h), by omega, by omega⟩, ⟨z.k, ⟨bK (BG z.x.s 6) 1 6, z.x.l ++ [oM (jS a z.t) z.x.s z.t]⟩⟩, ⟨by simp, rfl, rfl, λ _ _ => rfl, rfl, rfl, by simp, BIK _ _⟩, ho, by show 0 < (z.x.l ++ [_]).length; simp⟩
     have h0 : xD (jS a z.t) = 0 := h0
     have := okl.2.1; omega
   ·obtain ⟨n1, n2, n3⟩ := nx (show sT a _ z from hz)
    exact ⟨⟨z.k - 1, z.x⟩, ⟨n3, rfl, λ _ _ => rfl, rfl, rfl⟩, ⟨n1, hzl⟩, n2⟩
   ·obtain ⟨n1, n2, n3⟩ := nx (show sT a _ z from hz)
    exact ⟨⟨z.k - 1, z.x⟩, ⟨rfl, n3, rfl, λ _ _ => rfl, rfl, rfl, rfl, λ _ _ => ⟨rfl, rfl, rfl⟩⟩, ⟨n1, hzl⟩, n2⟩
  ·have hI : xO a y.k y.x := hy
   have e0 : y.x = mG a := by
    have := hI.2.2.2.1
    rw [show y.k = 0 by omega] at this; exact this
   obtain ⟨m1, m2⟩ := fl e0 hyl
   rw [m1, m2, <- e0]
   refine ⟨λ hc => ?_, λ _ => ⟨default, rfl, rfl, λ _ _ => rfl, rfl, rfl, rfl, λ _ _ => rfl, rfl, λ _ _ => ⟨rfl, rfl, rfl, rfl⟩, rfl, λ _ _ => ⟨rfl, rfl, rfl⟩⟩⟩
   have hc : ((y.x.l.length : Nat) : Int) = 0 := by simpa using hc
   omega
theorem AYX : AL Try.prog BEY (C_MadeO.spec dMkI) := Ih C_MadeO BHJ [(0, 304)] [] BXW (λ _ => by kernel_rfl) (λ _ => AB AKY (AB AEL AF)) (λ (a : MkI) h => BUS a (show preM a /\ True from h).1) (λ _ => Jf rfl rfl) _
end Go.Bal
