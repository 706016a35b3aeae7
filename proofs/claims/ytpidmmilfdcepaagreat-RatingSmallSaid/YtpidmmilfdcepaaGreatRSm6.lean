/- RatingSmall: parts. -/
import Derived.Test.YtpidmmilfdcepaaGreatRSm4
import Derived.Test.YtpidmmilfdcepaaGreatRows
import Derived.WalkKit
import Derived.ProofKit
import Derived.OpenShut
import Derived.ShutString
import Derived.ChangeOld
import Derived.Below
import Derived.ChangeArms
set_option linter.unusedVariables false
set_option linter.unusedSimpArgs false
namespace Go.Bal
open Go Go.Sym Go.Proofs
def CNB(w:One):Prop:=L_Sn 24
abbrev Uq:=@Exists SnZ
abbrev GH:=SnZ.n
abbrev Z9:=SnZ.i
abbrev BG:=SnZ.j
abbrev iK:=λ(f:SnZ->Prop)=>∀(x:SnZ),f x
abbrev AQW:=SnZ.k
abbrev FP a:=FH (AQW a)
abbrev ME a b:=IZ 7 (Z9 a) b
abbrev OP a:=FC (Z9 a) 7
abbrev KR a:=snL (BG a)
abbrev Jy a:=CN (GH a)
abbrev AFL a:=snL (Jy a)
abbrev My a:=snB (BG a)
abbrev uF a:=snB (Jy a)
abbrev Fo a b:=FF a (BG b)
abbrev WI:=BMK 7 snN
abbrev GD:=DR 7
abbrev UR a b:=KJ (AQW a) b
abbrev BNO a b:=DU a (FP b)
abbrev bB a b:=BNO (FP a) b
abbrev TT a:=snG (BG a)
abbrev Y2 a:=snG (Jy a)
abbrev BCI a b:=AI (Z9 a) b
abbrev Kn a b:=BCI a (Z9 b)
abbrev VM:=JQ 7
abbrev AQY a b:=FF (TJ 40 (BG a)) b
abbrev rM a b:=AQY a (TJ 40 (BG b))
abbrev FY a:=CN (BG a)
abbrev Sp a:=ABE 2 (FP a)
abbrev Qp a b:=FC (BG a) (GH b)
abbrev Tb a:=Nq (BG a)
abbrev BIN a b:=FF (GH a) b
abbrev QL a:=BIN a 26
abbrev CFQ a b c d e f g:=sD a a b c d e f g
abbrev AOO a b c d e f:=CFQ a b a c d e f
abbrev RX a b c d:=EF a (BG b) c d
abbrev Ec a:=BO (BG a)
abbrev On a b c d e:=RX a b c (wY d (BG e))
abbrev Qw a:=snL (FY a)
abbrev Rp a:=snB (FY a)
abbrev AVH a:=SI 1000 (XM a)
abbrev AUU a:=APS (Ec a)
abbrev nF a:=AVH (AUU a)
abbrev PD a:=snG (FY a)
abbrev BIW a b:=DU a (FY b)
abbrev Ue a b:=BIW (FY a) b
abbrev AQR a b:=AI (GH a) b
abbrev Wv a b:=AQR a (GH b)
abbrev aV a b:=Or a (BIN b 2)
abbrev ATL a b c d e:=CDI a b c d a e
attribute [go_sem] Uq GH Z9 BG iK AQW FP ME OP KR Jy AFL My uF Fo WI GD UR BNO bB TT Y2 BCI Kn VM AQY rM FY Sp Qp Tb BIN QL CFQ AOO RX Ec On Qw Rp AVH AUU nF PD BIW Ue AQR Wv aV ATL
theorem CWC(w:One):(CNB w)=(lN HO (HU (λi=>XV (EN (Ut GD VM (BX i) (AG (λj=>Nm j 7 snN j (Ub j 0 j 1 (Ub (Yk j) 2 (Yk j) 23 (Ub (Fl j) 24 (Fl j) 25 26))))))) i 7) (λi=>Ys (Ko i 7) (UO i 7) (AR (dR i 7 i) (ASD (λj=>SG (DY (MM (Eh j) (MS snN i)) AF GD VM (AI (RO j) i) AF AN (BXY AF AN BB GD WI AN)) (RO j) 7 (IZ 7 (RO j) i) (AKU j 26))) (ARY (λj=>So (AFH (RO j) 7 (IZ 7 (RO j) i) (AKU j 26)) 0 (BO (Eh j)) (BD (uO oR (Sx 3 Dl 24)) (Dp (Sx 1 YM 8) (Xk 4) yK Xg 1 32) Rk (Uq (λk=>CY (AW (AQR k (Eh j)) AF GD VM (BCI k (RO j)) (Cr (PI (FY k)) AN (BX (BG k)) GD WI AF (ATL (PI (FY k)) AF (AG (λl=>TO l (FY k) (PD k) l (SI 80 0) l (AVH (APS 0)) (Up (AVH (APS 0)) 0))) (AG (λl=>Nm l (FY k) (Rp k) l (rF 0))) (AG (λl=>OU l (FY k) (Qw k) 0 0 (rF 0) 0))))) (OP k) (ME k i) (QL k) (Qp k k) (aV (HE (BG k)) k) (AQY k 60)))) (ASD (λk=>SG (yF (AI (Eh k) (Eh j)) AF GD VM (AI (RO k) (RO j)) (BZH AN AF GD WI AF AF AN)) (RO k) 7 (IZ 7 (RO k) i) (HE (Eh k)))))) (iK (λj=>Ee (HF (OP j) (ME j i) (QL j) (Tb j) (BG j) (GH j) (aV (PI (BG j)) j)) (BG j) (GH j) (BD (uO oR (eV (AGE (DR (BG j)) (BG j)) Dl (FY j) 24)) (Dp (eV (wA (BG j)) YM (FY j) 8) (qK (BG j)) yK Ws (FY j) (ABE (FY j) 32)) Rk (FD (EP (VS (AUU j) 1) (Tx (XM (Ec j)) (BO (GH j)))) (Sx 1 (AYO HO) 24) (Uq (λk=>BD (DY (Wv k j) AF GD VM (Kn k j) AF (Ue k j) (ABH AF (PI (FP k)) (AI (BG k) (BG j)) GD WI (Ue k j) (AOO (Ue k j) (AG (λl=>TO l (FY k) (PD k) l (RX l j (BL (TT j) l) (SI 80 (Ec j))) l (RX l j (DF (TT j) l) (nF j)) (On l j (DG (TT j) l) (nF j) j))) (AG (λl=>Nm l (FY k) (Rp k) l (On l j (KL (My j) l) 1 j))) (AG (λl=>OU l (FY k) (Qw k) (RX l j (GQ (KR j) l) 0) (RX l j (LO (KR j) l) 0) (On l j (IV (KR j) l) 1 j) (RX l j (OE (KR j) l) (Ec j)))) (PI (FP k)) (AG (λl=>Ku l (FP k) (OD (UR k l) 2) (AG (λm=>KC m (UR k l) (ET m (Ec j) (XM (Ec j)))))))))) (OP k) (ME k i) (FE (QL k) (Tb k) (Qp k k) (Sp k) (FY k) (rM k j)))) (Uq (λk=>CY (AW (Wv k j) AF GD VM (Kn k j) (Cr (Ue k j) AN (AI (BG k) (BG j)) GD WI AF (ATL (Ue k j) AF (AG (λl=>TO l (FY k) (PD k) l (RX l j (BL (TT j) l) (SI 80 (Ec j))) l (RX l j (DF (TT j) l) (nF j)) (On l j (DG (TT j) l) (nF j) j))) (AG (λl=>Nm l (FY k) (Rp k) l (On l j (KL (My j) l) 1 j))) (AG (λl=>OU l (FY k) (Qw k) (RX l j (GQ (KR j) l) 0) (RX l j (LO (KR j) l) 0) (On l j (IV (KR j) l) 1 j) (RX l j (OE (KR j) l) (Ec j))))))) (OP k) (ME k i) (QL k) (Qp k k) (aV (HE (BG k)) k) (rM k j))))) (Uq (λk=>AR (And (AI (Jy k) (GH j)) (DO AF GD VM (Kn k j) (Uy (Y2 k) (BG j)) (Fo (AQ (BG j)) j) (λl=>BJT l (Y2 k) (TT j)) (HE (FP k)) (BFA (HE (FP k)) GD WI (OD (uF k) (BG j)) (Fo (AQ (BG j)) j) (AG (λl=>yC l (uF k) (My j) l)) (DU (Jy k) (BG j)) (AG (λl=>Zn l (Jy k) (AFL k) (Qq (KR j) l) (YO (KR j) l) (KR j) (AQ l)))))) (OP k) (ME k i) (FC (GH k) 26) (FF (FP k) 13))))) (iK (λj=>Ee (HF (OP j) (ME j i) (QL j) (Fo 2 j) (BG j) (GH j) (Fo (Sp j) j)) (BG j) (GH j) (BD (uO oR (eV (AGE (DR (BG j)) (BG j)) Dl (FY j) 24)) (Dp (eV (wA (BG j)) YM (FY j) 8) (qK (BG j)) yK Ws (FY j) (ABE (FY j) 32)) Rk (FD (EP (VS (AUU j) 1) (Tx (XM (Ec j)) (BO (GH j)))) (U5 (wA (FP j)) (AYO HO) (FP j) 24) (Uq (λk=>BD (DY (Wv k j) AF GD VM (Kn k j) AF (Ue k j) (ABH AF (QM (FP k) (FP j)) (AI (BG k) (BG j)) GD WI (Ue k j) (AOO (Ue k j) (AG (λl=>TO l (FY k) (PD k) l (RX l j (BL (TT j) l) (SI 80 (Ec j))) l (RX l j (DF (TT j) l) (nF j)) (On l j (DG (TT j) l) (nF j) j))) (AG (λl=>Nm l (FY k) (Rp k) l (On l j (KL (My j) l) 1 j))) (AG (λl=>OU l (FY k) (Qw k) (RX l j (GQ (KR j) l) 0) (RX l j (LO (KR j) l) 0) (On l j (IV (KR j) l) 1 j) (RX l j (OE (KR j) l) (Ec j)))) (QM (FP k) (FP j)) (AG (λl=>Ku l (FP k) (OD (UR k l) (H4 (ANN l (FP j)) (GZ (UR j l)) 2)) (AG (λm=>KC m (UR k l) (EF l (FP j) (KL (UR j l) m) (ET m (Ec j) (XM (Ec j))))))))))) (OP k) (ME k i) (FE (QL k) (Tb k) (Qp k k) (Sp k) (FY k) (rM k j)))) (Uq (λk=>BD (DY (Wv k j) AF GD VM (Kn k j) AF (Ue k j) (ABH AF (bB k j) (AI (BG k) (BG j)) GD WI (Ue k j) (AOO (Ue k j) (AG (λl=>TO l (FY k) (PD k) l (RX l j (BL (TT j) l) (SI 80 (Ec j))) l (RX l j (DF (TT j) l) (nF j)) (On l j (DG (TT j) l) (nF j) j))) (AG (λl=>Nm l (FY k) (Rp k) l (On l j (KL (My j) l) 1 j))) (AG (λl=>OU l (FY k) (Qw k) (RX l j (GQ (KR j) l) 0) (RX l j (LO (KR j) l) 0) (On l j (IV (KR j) l) 1 j) (RX l j (OE (KR j) l) (Ec j)))) (bB k j) (AG (λl=>Kp l (FP k) (UR k l) (UR j l)))))) (OP k) (ME k i) (FE (QL k) (Tb k) (Qp k k) (Sp k) (FY k) (rM k j)))))) (Uq (λk=>AR (AO (AI (Jy k) (GH j)) AF (BK GD VM (Kn k j) (Uy (Y2 k) (BG j)) (Fo (AQ (BG j)) j) (fS (Y2 k) (TT j)) (bB k j) (tT (FP j)) (BFA (AG (λl=>Kp l (FP k) (UR k l) (UR j (AQ l)))) GD WI (OD (uF k) (BG j)) (Fo (AQ (BG j)) j) (AG (λl=>yC l (uF k) (My j) l)) (DU (Jy k) (BG j)) (AG (λl=>Zn l (Jy k) (AFL k) (Qq (KR j) l) (YO (KR j) l) (KR j) (AQ l)))))) (OP k) (ME k i) (FC (GH k) 26) (FF (FP k) 13)))))) (Ur (λj=>HO))))):=by kernel_rfl
def CMI(w:One):Prop:=L_Sn 32
abbrev Dx a b:=BIW (BG a) b
attribute [go_sem] Dx
theorem CWT(w:One):(CMI w)=(AG (λi=>AGD i 7 (AO (ARY (λj=>BJO j 7 (IZ 7 (RO j) i) (AKU j 26) (Hv (iK (λk=>PY (AW (OP k) (ME k i) (QL k) (Qp k k) (aV (HE (BG k)) k) (AQY k 60)) (Uq (λl=>Je (AW (Wv l k) AF GD VM (Kn l k) (Cr (Dx l k) AN (AJ (BG l) (BG k)) GD WI AF (ATL (Dx l k) AF (AG (λm=>TO m (BG l) (TT l) m (BL (PD k) m) m (DF (PD k) m) (DG (PD k) m))) (AG (λm=>Fy m (BG l) (My l) m (Rp k) m)) (RS (BG l) (KR l) (Qw k))))) (HF (OP l) (ME l i) (QL l) (Tb l) (BG l) (GH l) (aV (PI (BG l)) l)) 40 (BG l) 60)))) (iK (λk=>fL (Z9 k) 7 (ME k i) (FE (QL k) (Tb k) (Qp k k) (Sp k) (FY k) (AQY k 60)) (Uq (λl=>Je (DY (Wv l k) AF GD VM (Kn l k) AF (Dx l k) (ABH AF (bB l k) (AJ (BG l) (BG k)) GD WI (Dx l k) (AOO (Dx l k) (AG (λm=>TO m (BG l) (TT l) m (BL (PD k) m) m (DF (PD k) m) (DG (PD k) m))) (AG (λm=>Fy m (BG l) (My l) m (Rp k) m)) (RS (BG l) (KR l) (Qw k)) (bB l k) (AG (λm=>Kp m (FP l) (UR l m) (UR k m)))))) (HF (OP l) (ME l i) (QL l) (Fo 2 l) (BG l) (GH l) (Fo (Sp l) l)) 40 (BG l) 60))))))) (iK (λj=>PY (HF (OP j) (ME j i) (QL j) (Tb j) (BG j) (GH j) (aV (PI (BG j)) j)) (Hv (iK (λk=>PY (AW (OP k) (ME k i) (QL k) (Qp k k) (aV (HE (BG k)) k) (rM k j)) (Uq (λl=>EO (AW (Wv l k) AF GD VM (Kn l k) (Cr (Dx l k) AN (AJ (BG l) (BG k)) GD WI AF (ATL (Dx l k) AF (AG (λm=>TO m (BG l) (TT l) m (BL (PD k) m) m (DF (PD k) m) (DG (PD k) m))) (AG (λm=>Fy m (BG l) (My l) m (Rp k) m)) (RS (BG l) (KR l) (Qw k))))) (HF (OP l) (ME l i) (QL l) (Tb l) (BG l) (GH l) (aV (PI (BG l)) l)) 40 (BG l) (BG j))))) (iK (λk=>fL (Z9 k) 7 (ME k i) (FE (QL k) (Tb k) (Qp k k) (Sp k) (FY k) (rM k j)) (Uq (λl=>EO (DY (Wv l k) AF GD VM (Kn l k) AF (Dx l k) (ABH AF (bB l k) (AJ (BG l) (BG k)) GD WI (Dx l k) (AOO (Dx l k) (AG (λm=>TO m (BG l) (TT l) m (BL (PD k) m) m (DF (PD k) m) (DG (PD k) m))) (AG (λm=>Fy m (BG l) (My l) m (Rp k) m)) (RS (BG l) (KR l) (Qw k)) (bB l k) (AG (λm=>Kp m (FP l) (UR l m) (UR k m)))))) (HF (OP l) (ME l i) (QL l) (Fo 2 l) (BG l) (GH l) (Fo (Sp l) l)) 40 (BG l) (BG j)))))))) (iK (λj=>PY (HF (OP j) (ME j i) (QL j) (Fo 2 j) (BG j) (GH j) (Fo (Sp j) j)) (Hv (iK (λk=>PY (AW (OP k) (ME k i) (QL k) (Qp k k) (aV (HE (BG k)) k) (rM k j)) (Uq (λl=>EO (AW (Wv l k) AF GD VM (Kn l k) (Cr (Dx l k) AN (AJ (BG l) (BG k)) GD WI AF (ATL (Dx l k) AF (AG (λm=>TO m (BG l) (TT l) m (BL (PD k) m) m (DF (PD k) m) (DG (PD k) m))) (AG (λm=>Fy m (BG l) (My l) m (Rp k) m)) (RS (BG l) (KR l) (Qw k))))) (HF (OP l) (ME l i) (QL l) (Tb l) (BG l) (GH l) (aV (PI (BG l)) l)) 40 (BG l) (BG j))))) (iK (λk=>fL (Z9 k) 7 (ME k i) (FE (QL k) (Tb k) (Qp k k) (Sp k) (FY k) (rM k j)) (Uq (λl=>EO (DY (Wv l k) AF GD VM (Kn l k) AF (Dx l k) (ABH AF (bB l k) (AJ (BG l) (BG k)) GD WI (Dx l k) (AOO (Dx l k) (AG (λm=>TO m (BG l) (TT l) m (BL (PD k) m) m (DF (PD k) m) (DG (PD k) m))) (AG (λm=>Fy m (BG l) (My l) m (Rp k) m)) (RS (BG l) (KR l) (Qw k)) (bB l k) (AG (λm=>Kp m (FP l) (UR l m) (UR k m)))))) (HF (OP l) (ME l i) (QL l) (Fo 2 l) (BG l) (GH l) (Fo (Sp l) l)) 40 (BG l) (BG j))))))))))):=by kernel_rfl
def CPB(w:One):Prop:=L_Sn 37
abbrev wS a:=BJA (Jy a) (AFL a)
abbrev aU a:=CO (wS a)
abbrev Cs a:=R7 (GH a)
abbrev TB a:=snB (GH a)
abbrev Ym a:=snL (GH a)
abbrev TR a:=snG (GH a)
attribute [go_sem] wS aU Cs TB Ym TR
theorem CTL(w:One):(CPB w)=(AG (λi=>AGD i 7 (Hv (ARY (λj=>LZ (AFH (RO j) 7 (IZ 7 (RO j) i) (HE (Eh j))) (BD AF AN (APT (dF (SA 0) 0)) De) (Uq (λk=>FE (BD (AQR k (Eh j)) AF GD (BK VM (BCI k (RO j)) (Td (TR k)) (Td (TR k)) (HE (FP k)) (HE (FP k)) GD WI (CFQ (oC (TB k)) (LB (Ym k) 0) (LB (Ym k) 0) (oC (TB k)) (LB (Cs k) 1) Ea (AG (λl=>OU l (CO (Cs k)) (Cs k) 0 0 2000 200000))))) (OP k) (ME k i) (GH k) 26 (FF (FP k) 13))))) (iK (λj=>LZ (BD (OP j) (ME j i) (FC (GH j) 26) (FF (FP j) 13)) (BD (LB (wS j) (Jy j)) (RS (aU j) (wS j) (AFL j)) (LZ UN (SA (aU j)) (Br (aU j))) (ADZ (aU j))) (Uq (λk=>FE (BD (AQR k (Jy j)) AF GD (BK VM (Kn k j) (HQ (TR k) (Y2 j)) (EK (TR k) (Y2 j)) (bB k j) (AG (λl=>Kp l (FP k) (UR k l) (UR j l))) GD WI (BCZ (BC (TB k) (uF j)) (BR (TB k) (uF j)) (LB (Ym k) (Jy j)) (RS (CO (Ym k)) (Ym k) (AFL j)) (BR (TB k) (uF j)) (LB (Cs k) (CN (aU j))) (tT (CN (aU j))) (AG (λl=>OU l (CO (Cs k)) (Cs k) (EF (AQ l) (aU j) (Qq (wS j) l) 0) (EF (AQ l) (aU j) (YO (wS j) l) 0) (EF (AQ l) (aU j) (wT (wS j) l) 2000) (EF (AQ l) (aU j) (BBV (wS j) l) 200000)))))) (OP k) (ME k i) (GH k) 26 (FF (FP k) 13)))))))):=by kernel_rfl
def CQW(w:One):Prop:=L_Sn 38
theorem CRV(w:One):(CQW w)=(AG (λi=>AGD i 7 (iK (λj=>LZ (BD (OP j) (ME j i) (QL j) (FF (FP j) 13)) (AR (AY (TR j)) (BJ (TR j)) (Al (dS (TR j))) (Pa (oY (OJ (lG (TR j))) (Iv (GH j) (UO (GH j) 25))) (AW (EA (TB j)) (CM (TB j)) (qJ (Cs j)) (lH (dG (Cs j)) (Cs j)) (lF (TB j)) (Hb (dG (Cs j))))) (Pa (JR (oY (OJ (lG (TR j))) (Iv (GH j) (UO (GH j) 25))) (oY (OJ (Hj (K4 (TB j) (Jg (Cs j))))) (UO (GH j) 25))) (AW (EA (TB j)) (CM (TB j)) (qJ (Ym j)) (lH (dG (Ym j)) (Ym j)) (lF (TB j)) (Hb (dG (Ym j)))))) (Tp (JR (oY (OJ (lG (TR j))) (Iv (GH j) (UO (GH j) 25))) (oY (OJ (Hj (K4 (TB j) (Jg (Cs j))))) (UO (GH j) 25))) (OJ (Hj (K4 (TB j) (Jg (Ym j))))) (And (CY (AY (TR j)) (BJ (TR j)) (EA (TB j)) (CM (TB j)) (qJ (Cs j)) (lH (dG (Cs j)) (Cs j)) (BWJ Fq Fq (oD 40 40) (Lv (AO (AY (TR j)) (BJ (TR j)) (DO (EA (TB j)) (CM (TB j)) (OD (hd57 2 (λk=>ET k 0 1)) 2) (AG (λk=>KC k (hd57 2 (λl=>ET l 0 1)) (ET k 0 1))) (AK (P7 (FP j))) (BNO (FH (AIE (FP j) (AQW j))) j) (λk=>ANR k (FH (AIE (FP j) (AQW j))) (AIE (FP j) (AQW j)) k (UR j k)) (N4 (TR j)) (IN (kSm (AIE (FP j) (AQW j))))))) (Lv (AMZ (FJ (BO (GH j))) (BP (GH j)) (BO (GH j)) 9223372036854775807 (KO (hd75 (BO 24) (BO (GH j))) 281474976710656))) (Lv (AO (AY (TR j)) (BJ (TR j)) (BQI (oC snI0) (OD (hd57 2 (λk=>ET k 0 1)) 2) (AG (λk=>KC k (hd57 2 (λl=>ET l 0 1)) (ET k 0 1))) (AK 1) (DU (FH (sW (GH j) (λk=>ofV (ANI yJ 0)))) (GH j)) (AG (λk=>Ku k (FH (sW (GH j) (λl=>ofV (ANI yJ 0)))) (oC (KJ (sW (GH j) (λl=>ofV (ANI yJ 0))) k)) (oC (KJ (sW (GH j) (λl=>ofV (ANI yJ 0))) k)))) (N4 (TR j)) (IN (kSm (sW (GH j) (λk=>ofV (ANI yJ 0)))))))) (Lv (BFA (AY (TR j)) (BJ (TR j)) (EA (TB j)) (CM (TB j)) (oD 90 90) (oD 1500 1500) (oD 80 80) UN)))) (EI (λk=>Bm (EN (Ut GD VM (AJ k (Z9 j)) WI)) k 7 k i)))))))):=by kernel_rfl
def COQ(w:One):Prop:=L_Sn 43
theorem CTA(w:One):(COQ w)=(Ep (λi=>LZ HO (KZ (YJ 3 (λj=>HJ j 3 (BOP (BL snT j) (Ub j 1999 j 2000 0) snT j (Ub j 199999 j 200000 0) (Ub j 199999 j 200000 0))))) (Ep (λj=>LZ HO (DY Iq (AG (λk=>TO k 3 (CG snT) k (BL snT k) k (DF snT k) (DG snT k))) UX Ea (AG (λk=>Nm k 1 (hd57 1 (λl=>1)) k 1)) (JQ 1000) (JQ 100) (BK (JQ 990) (JQ 1001) zZ (Lv (YE zM 2 (KO 2 (BO 3)))) (Lv (yV MR (AG (λk=>TO k 2 (BSB (nU 2 DW) snT aZ) k (BL snT (aZ k)) k (DF snT (aZ k)) (DG snT (aZ k)))) AF BB eJ (JQ 1900) (JQ 1910) UN)) (Lv (yV Iq (AG (λk=>TO k 3 (CG snT) k (BL snT k) k (DF snT k) (DG snT k))) AF (JQ 5) (JQ 5) BB (JQ 3) UN)) (Lv (uO AF (ARZ AF AF AF AF BB BB BB BB))) (Lv (uO AF (BVZ AF BB AF UN UN))) (Lv (ARZ AF AF AF AF BB BB BB zZ)))) UN)))):=by kernel_rfl
theorem CZT(w:One):CNB w:=by
 rw[CWC]<;> dsimp only[go_sem];simp only[CC,CU]
 refine⟨⟨0,⟨rfl,λi hi=>?_⟩,by omega⟩,λa ha=>⟨λh=>?_,λ_=>⟨default,trivial⟩⟩⟩
 ·revert hi;revert i;decide +kernel
 have hN:=CRE a (by omega)
 refine⟨⟨⟨by omega,h⟩,by omega⟩,⟨⟨a,(gD snN a).toNat⟩,⟨Int.toNat_of_nonneg hN.1,rfl⟩,by show a<7;omega,rfl,by show (gD snN a).toNat<=26;omega⟩,λs ⟨s1,s2,s3⟩=>⟨λh=>⟨by simp,by simp,by decide,⟨s.i,s.n,0,[]⟩,⟨rfl,rfl,rfl,rfl,rfl,rfl,rfl,λi hi=>?_,rfl,λi hi=>?_,rfl,λi hi=>?_⟩,s1,s2,s3,by show 0<s.n;omega,.inl rfl,by show 40-0<=60;omega⟩,λh=>⟨s,⟨rfl,rfl⟩,s1,s2,by omega⟩⟩,λs ⟨s1,s2,s3,s4,s5,s6⟩=>⟨λh=>⟨⟨by omega,by omega,by omega,λh=>(by cases h),by omega,by omega⟩,⟨⟨by omega,λh=>(by cases h),by omega,by omega⟩,by omega,λh=>(by cases h),by omega,by omega⟩,by decide,λhc=>⟨by simp,?_⟩,λhc=>⟨s,⟨rfl,rfl,rfl,rfl,rfl,rfl,rfl,λi hi=>ACQ hi,rfl,λi hi=>ADC (by omega) hi,rfl,λi hi=>ACP (by omega) hi⟩,s1,s2,s3,by omega,?_,Nat.le_refl _⟩⟩,λh=>?_⟩,λs ⟨s1,s2,s3,s4,s5,s6⟩=>⟨λh=>⟨⟨by omega,by omega,by omega,λh=>(by cases h),by omega,by omega⟩,⟨⟨by omega,λh=>(by cases h),by omega,by omega⟩,by omega,λh=>(by cases h),by omega,by omega⟩,by decide,λhc=>⟨⟨λh=>(by cases h),by omega,by omega⟩,?_⟩,λhc=>⟨s,⟨rfl,rfl,rfl,rfl,rfl,rfl,rfl,rfl,λi hi=>ACQ hi,rfl,λi hi=>ADC (by omega) hi,rfl,λi hi=>ACP (by omega) hi,rfl,λ_ _=>⟨rfl,λ_ _=>rfl⟩⟩,s1,s2,s3,by omega,by omega,by omega,Nat.le_refl _⟩⟩,λh=>?_⟩⟩
 ·obtain rfl:i=0:=by have hi:i<0+1:=hi;omega
  show (gD (snG 1) 0).st=IntKind.i64.wrap (80*0)/\(gD (snG 1) 0).lo=IntKind.i64.wrap (1000*IntKind.i64.wrap (Int.tmod 0 2+1))/\(gD (snG 1) 0).hi=IntKind.i64.wrap (IntKind.i64.wrap (1000*IntKind.i64.wrap (Int.tmod 0 2+1))+0)
  decide +kernel
 ·obtain rfl:i=0:=by have hi:i<0+1:=hi;omega
  rfl
 ·obtain rfl:i=0:=by have hi:i<0+1:=hi;omega
  exact⟨rfl,rfl,rfl,rfl⟩
 ·obtain⟨k,k1,k2⟩:=ALA 1 (λ_=>2) λ_ j=>bif decide (j=0) then (s.j:Int) else IntKind.i64.wrap ((s.j:Int)+1)
  exact⟨⟨s.i,s.n,s.j,k⟩,⟨rfl,rfl,rfl,k1,rfl,rfl,rfl,rfl,λi hi=>ACQ hi,rfl,λi hi=>ADC (show s.j<1000 by omega) hi,rfl,λi hi=>ACP (show s.j<1000 by omega) hi,k1,k2⟩,s1,s2,s3,s4,by show s.j<s.n;omega,by show 2*k.length<=s.j+1;omega,Nat.le_refl _⟩
 ·rcases s6 with e | e
  ·rw[e] at hc
   rcases (show s.n<=2∨2<s.n by omega) with q | q
   ·exact .inr q
   ·rw[show IntKind.i64.wrap (((1:Nat):Int)+1)=2 from rfl,decide_eq_true (show (2:Int)<s.n by omega)] at hc
    cases hc
  ·exact .inr e
 ·have e:s.n-1+1=s.j:=by omega
  refine⟨⟨s.i,s.n-1,0,[]⟩,?_,s1,s2,by show s.n-1<26;omega,Nat.zero_le _⟩
  simp only[e,AJD,AJI,true_and,and_true,implies_true,Nat.le_refl,and_self,List.length_nil];omega
 ·have ho:((s.j:Int).tmod 2==1)=true:=by
   cases q:((s.j:Int).tmod 2==1) with
   |true=>rfl
   |false=>rw[q] at hc;cases hc
  have ho:(s.j:Int).tmod 2=1:=by simpa using ho
  rw[Int.tmod_eq_emod_of_nonneg (by omega)] at ho
  obtain⟨k,k1,k2⟩:=ALA (s.k.length+1) (λi=>bif decide (i<s.k.length) then (gD s.k i).length else 2) λi j=>bif decide (i<s.k.length) then gD (gD s.k i) j else bif decide (j=0) then (s.j:Int) else IntKind.i64.wrap ((s.j:Int)+1)
  exact⟨⟨s.i,s.n,s.j,k⟩,⟨rfl,rfl,rfl,k1,rfl,rfl,rfl,rfl,λi hi=>ACQ hi,rfl,λi hi=>ADC (show s.j<1000 by omega) hi,rfl,λi hi=>ACP (show s.j<1000 by omega) hi,k1,k2⟩,s1,s2,s3,by show 0<s.j;omega,by show s.j<s.n;omega,by show 2*k.length<=s.j+1;omega,Nat.le_refl _⟩
 ·have e:s.n-1+1=s.j:=by omega
  refine⟨⟨s.i,s.n-1,0,s.k⟩,?_,s1,s2,by show s.n-1<26;omega,by show s.k.length<=13;omega⟩
  simp only[e,AJD,AJI,true_and,and_true,implies_true,Nat.le_refl,and_self,List.length_nil];omega
theorem DCF(w:One):CMI w:=by
 rw[CWT]<;> dsimp only[go_sem];simp only[CC,CU]
 have nx:∀{s:SnZ} {a q:Nat},s.i<7/\7-s.i=7-a/\s.n<=26/\s.j<s.n/\(s.j=0∨s.n<=2)/\40-s.j<=q->s.j<26/\((s.j+1:Nat):Int)=IntKind.i64.wrap ((s.j:Int)+1):=λ{s a q} h=>⟨by omega,(BF (by omega)).symm⟩
 have ny:∀{s:SnZ} {a q:Nat},s.i<7/\7-s.i=7-a/\s.n<=26/\0<s.j/\s.j<s.n/\2*s.k.length<=s.j+1/\40-s.j<=q->s.j<26/\((s.j+1:Nat):Int)=IntKind.i64.wrap ((s.j:Int)+1):=λ{s a q} h=>⟨by omega,(BF (by omega)).symm⟩
 refine λa ha=>⟨λ_ _=>⟨λs h=>⟨⟨s.i,s.n,s.j+1,s.k⟩,⟨rfl,rfl,rfl,(nx h).2,rfl,rfl,rfl,λ_ _=>⟨rfl,rfl,rfl⟩,rfl,λ_ _=>rfl,rfl,λ_ _=>⟨rfl,rfl,rfl,rfl⟩⟩,⟨h.1,h.2.1,h.2.2.1,?_,?_,?_⟩,?_⟩,λs h=>⟨⟨s.i,s.n,s.j+1,s.k⟩,⟨rfl,rfl,rfl,rfl,(ny h).2,rfl,rfl,rfl,λ_ _=>⟨rfl,rfl,rfl⟩,rfl,λ_ _=>rfl,rfl,λ_ _=>⟨rfl,rfl,rfl,rfl⟩,rfl,λ_ _=>⟨rfl,λ_ _=>rfl⟩⟩,⟨h.1,h.2.1,h.2.2.1,?_,?_,?_⟩,?_⟩⟩,λ_ _=>⟨λs h=>⟨⟨s.i,s.n,s.j+1,s.k⟩,⟨rfl,rfl,rfl,(nx h).2,rfl,rfl,rfl,λ_ _=>⟨rfl,rfl,rfl⟩,rfl,λ_ _=>rfl,rfl,λ_ _=>⟨rfl,rfl,rfl,rfl⟩⟩,⟨h.1,h.2.1,h.2.2.1,?_,?_,?_⟩,?_⟩,λs h=>⟨⟨s.i,s.n,s.j+1,s.k⟩,⟨rfl,rfl,rfl,rfl,(ny h).2,rfl,rfl,rfl,λ_ _=>⟨rfl,rfl,rfl⟩,rfl,λ_ _=>rfl,rfl,λ_ _=>⟨rfl,rfl,rfl,rfl⟩,rfl,λ_ _=>⟨rfl,λ_ _=>rfl⟩⟩,⟨h.1,h.2.1,h.2.2.1,?_,?_,?_⟩,?_⟩⟩,λ_ _=>⟨λs h=>⟨⟨s.i,s.n,s.j+1,s.k⟩,⟨rfl,rfl,rfl,(nx h).2,rfl,rfl,rfl,λ_ _=>⟨rfl,rfl,rfl⟩,rfl,λ_ _=>rfl,rfl,λ_ _=>⟨rfl,rfl,rfl,rfl⟩⟩,⟨h.1,h.2.1,h.2.2.1,?_,?_,?_⟩,?_⟩,λs h=>⟨⟨s.i,s.n,s.j+1,s.k⟩,⟨rfl,rfl,rfl,rfl,(ny h).2,rfl,rfl,rfl,λ_ _=>⟨rfl,rfl,rfl⟩,rfl,λ_ _=>rfl,rfl,λ_ _=>⟨rfl,rfl,rfl,rfl⟩,rfl,λ_ _=>⟨rfl,λ_ _=>rfl⟩⟩,⟨h.1,h.2.1,h.2.2.1,?_,?_,?_⟩,?_⟩⟩⟩
 all_goals simp only
 all_goals omega
theorem BGB{n j:Nat}(h:j<n+1):gD (R7 n) j=bif decide (j<n) then gD (snL n) j else⟨0,0,2000,200000⟩:=by
 unfold R7
 rw[D8 _ _ (by rw[ACT];exact h),ACT]
theorem CXK(w:One):CPB w:=by
 rw[CTL]<;> dsimp only[go_sem];simp only[CC,CU,RB,AJD,AJI,ACT,BGQ]
 refine λa ha=>⟨λs ⟨s1,s2,s3⟩=>⟨⟨λh=>(by cases h),λh=>(by omega),by omega,by omega,by omega,by omega⟩,⟨s.i,s.n,0,[]⟩,⟨rfl,rfl,s3,s3,rfl,rfl,s3,s3,s3,s3,s3,s3,by show s.n+1=1;omega,by omega,λj hj=>?_⟩,s1,s2,by show s.n<=26;omega,Nat.zero_le _⟩,λs ⟨s1,s2,s3,s4⟩=>⟨⟨λi hi=>?_,⟨by omega,by omega⟩,by omega,λh=>(by cases h),by omega,by omega⟩,⟨s.i,s.n+1,0,s.k⟩,⟨rfl,rfl,rfl,λ_ _=>⟨rfl,rfl,rfl⟩,rfl,λ_ _=>⟨rfl,λ_ _=>rfl⟩,rfl,λ_ _=>rfl,rfl,λ_ _=>⟨rfl,rfl,rfl,rfl⟩,rfl,λ_ _=>rfl,rfl,by omega,λj hj=>?_⟩,s1,s2,by show s.n+1<=26;omega,s4⟩⟩
 ·have hj:j<s.n+1:=hj
  show (gD (R7 s.n) j).a0=0/\(gD (R7 s.n) j).a1=0/\(gD (R7 s.n) j).b0=2000/\(gD (R7 s.n) j).b1=200000
  rw[BGB hj,decide_eq_false (show ¬j<s.n by omega)]
  exact⟨rfl,rfl,rfl,rfl⟩
 ·rw[DC _ _ _ hi];exact⟨rfl,rfl,rfl,rfl⟩
 ·have hj:j<s.n+1+1:=hj
  show ((gD (R7 (s.n+1)) j).a0=_)/\((gD (R7 (s.n+1)) j).a1=_)/\((gD (R7 (s.n+1)) j).b0=_)/\(gD (R7 (s.n+1)) j).b1=_
  rw[BGB hj]
  by_cases q:j<s.n+1
  ·rw[decide_eq_true q,DC _ _ _ q];exact⟨rfl,rfl,rfl,rfl⟩
  ·rw[decide_eq_false q];exact⟨rfl,rfl,rfl,rfl⟩
theorem DAW(w:One):CQW w:=by
 rw[CRV]<;> dsimp only[go_sem];simp only[CC,CU];simp only[AJD,AJI,ACT,BGQ]
 intro a ha s ⟨s1,s2,s3,s4⟩
 have c1:=CUF s.n (by omega)
 have c2:=CVQ s.n (by omega)
 have c3:=CWE s.n (by omega)
 have k:∃y:Nat,(y:Int)=IntKind.i64.wrap ((s.i:Int)+1)/\y<=7/\7-y<7-a:=⟨s.i+1,(BF (by omega)).symm,by omega,by omega⟩
 have e1:decide ((s.n:Int)>0)=decide (0<s.n):=by simp
 have e2:decide ((s.n:Int)<25)=decide (s.n<25):=by simp;omega
 have e3:(bif decide (0<s.n) then decide (s.n<25) else false)=(decide (0<s.n)&&decide (s.n<25)):=by cases decide (0<s.n)<;>rfl
 have e4:(sW s.k.length λi=>AZ (gD s.k i))=s.k:=by rw[BZT];exact RB _
 rw[c1,c2,c3,e1,e2,e3,e4,CTK]
 simp only[beq_self_eq_true,Bool.not_true,cond_false,rng_length]
 exact⟨⟨by omega,λ_=>⟨by omega,by omega⟩,λ_=>⟨by omega,by omega⟩⟩,λh=>(by cases h),λ_=>⟨⟨rfl,rfl,rfl,rfl,rfl,⟨λi hi=>DC _ _ _ hi,trivial,λ_ _=>⟨trivial,λ_ _=>trivial⟩,CEG _ (by omega),CEW (by omega)⟩,⟨by omega,by omega,by omega⟩,⟨rfl,rfl,λi hi=>DC _ _ _ hi,trivial,λi hi=>by rw[DC _ _ _ hi];rfl,CEG _ (by omega),CYD _ (by omega)⟩,rfl,rfl,rfl,rfl⟩,k⟩⟩
theorem CXF(w:One):COQ w:=by
 rw[CTA]<;> dsimp only[go_sem];simp only[CC,CU]
 refine⟨⟨default,λi hi=>?_⟩,by omega,λj hj=>?_,by omega,λi hi=>?_⟩
 ·match i,hi with
  |0,_=>exact⟨rfl,rfl,rfl⟩
  |1,_=>exact⟨rfl,rfl,rfl⟩
  |2,_=>exact⟨rfl,rfl,rfl⟩
 ·exact DC _ _ _ hj
 ·match i,hi with
  |0,_=>exact⟨rfl,rfl,rfl⟩
  |1,_=>exact⟨rfl,rfl,rfl⟩
def LS(n:Nat):Prop:=GY ZP A_Sn Gk 10 (Vk n) (AE Tryz.f3) [] Vl
theorem CRT(n:Nat)(h:n<22):LS n:=match n,h with
 |0,_=>p_n0 default
 |1,_=>p_n1 default
 |2,_=>p_n2 default
 |3,_=>p_n3 default
 |4,_=>p_n4 default
 |5,_=>p_n5 default
 |6,_=>p_n6 default
 |7,_=>p_n7 default
 |8,_=>p_n8 default
 |9,_=>p_n9 default
 |10,_=>DAO default
 |11,_=>DBP default
 |12,_=>DCJ default
 |13,_=>DCD default
 |14,_=>DBA default
 |15,_=>CWZ default
 |16,_=>DCA default
 |17,_=>DCC default
 |18,_=>DAH default
 |19,_=>CZR default
 |20,_=>DAF default
 |21,_=>CYM default
 |n+22,h=>absurd h (by omega)
theorem DAM:L_Sn 10:=by
 refine BVP (I:=Fin 22) (λi=>Vk i.val) _ (λL y gs Q hL h=>?_) _ _ _ λi=>CRT i.val i.isLt
 obtain rfl:[sn10 (gs.getD 0 0) (gs.getD 1 0)]=L:=Option.some.inj hL
 intro s hs
 have:=h ⟨s.n,hs.2.2.1⟩ s.i hs.1 hs.2.1 hs.2.2.1 hs.2.2.2
 exact this
theorem BVQ{k:Nat}(h:Gk k=true):k=10∨k=11∨k=13∨k=14∨k=17∨k=18∨k=19∨k=20∨k=24∨k=32∨k=37∨k=38∨k=43:=by
 simp only[Gk,Bool.or_eq_true,IM] at h;exact h
theorem CJD(k:Nat)(h:Gk k=true):L_Sn k:=by
 rcases BVQ h with rfl | rfl | rfl | rfl | rfl | rfl | rfl | rfl | rfl | rfl | rfl | rfl | rfl
 ·exact DAM
 ·exact CYJ default
 ·exact DAK default
 ·exact CZW default
 ·exact DAZ default
 ·exact CXN default
 ·exact CYW default
 ·exact DBR default
 ·exact CZT default
 ·exact DCF default
 ·exact CXK default
 ·exact DAW default
 ·exact CXF default
theorem CUS:GOk ZP A_Sn.Γ:=AA CVA (AA CSG (AA CWD (AA CWR (AA Jx (AA D7 (AA CIU (AA ACZ AD)))))))
theorem DAQ:FnT ZP 3 [] (AB []) (.bool true) []:=fntS (A:=A_Sn) (S:=Gk) (ren:=[]) (fz:=[]) Tryz.func3 (by kernel_rfl) CUS CJD (p_Sn default)
end Go.Bal
set_option maxRecDepth 100000
namespace Go.Bal
open Go Go.Sym Go.Proofs Go.ChangeShapes Go.WideShapes Go.RowKit
def BRF(w:World):Fi:=λb=>match w.heap[b]? with
 |some (.cells c _ _)=>some c
 |_=>none
theorem BXH(w:World)(ι:Nat->Pl):HRel (BRF w) ι (AB []) w:=by
 refine⟨λi o h=>by simp[AB,IP] at h,λi j o o' h=>by simp[AB,IP] at h,λi o h=>by simp[AB,IP] at h,λb c h=>?_⟩
 unfold BRF at h
 split at h
 ·rename_i c' e fr hc
  cases h
  exact⟨e,fr,hc⟩
 ·cases h
theorem BVH{g:FuncId}{xs:List AVal}(hg:FnT ZP g xs (AB []) (.bool true) []){w:World}{vs:Array Value}(hl:vs.size=xs.length)
  (hx:∀(j:Nat) (a:AVal) (y:Value),xs[j]?=some a->vs[j]?=some y->∃d,a=.d d/\DRel (BRF w) d y) :
  Calls ZP g vs w λe w'=>e=.returned (.bool true)/\Below w.heap.size w w':=by
 refine (hg.2 (BRF w) (λ_=>⟨0,0⟩) w vs ⟨hl,λj a y ha hy=>?_⟩ (BXH w _)).mono λe w' ⟨v,H',he,_,B',ι',hm,hv⟩=>?_
 ·obtain⟨d,rfl,hd⟩:=hx j a y ha hy
  exact .d hd
 ·subst he
  cases hv with
  |d hd=>
   cases hd
   exact⟨rfl,hm.calm.os,hm.calm.tape,hm.calm.output,hm.size,λk hk=>hm.frame k hk λi o h=>by simp[AB,IP] at h⟩
end Go.Bal
