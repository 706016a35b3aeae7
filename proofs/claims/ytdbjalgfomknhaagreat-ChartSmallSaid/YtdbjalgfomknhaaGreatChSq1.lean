/- ChartSmall: one number of an example is another one (8 to 15). -/
import Derived.Test.YtdbjalgfomknhaaGreatChSm1
import Derived.Test.YtdbjalgfomknhaaGreatChSm7
set_option linter.unusedVariables false
set_option linter.unusedSimpArgs false
namespace Go.Bal
open Go Go.Sym Go.Proofs
def CPX(w:One):Prop:=NT Try.prog A_Cs Lp 11 (Tn 8) (AJ IR) [] To
abbrev YN a(b:Nat->Prop) c:=UQ a (UL a b c)
abbrev Mo a(b:Nat->Prop) c d:=YN a b (QK c d)
abbrev XC a b c d(e:Nat->Prop) f g h p:=LG a b c (Mo d e f g) h p
abbrev So a b c:=Vr a (HB b) c
abbrev Re a:=BK (RX a)
abbrev jY:=PW 0
abbrev Ta a:=BH (RX a)
abbrev Sc a:=BK (RY a)
abbrev dG a:=BK (PS a)
abbrev Rp a:=BH (RY a)
abbrev gZ a:=BH (PS a)
abbrev Vg a:=BR csO a
abbrev Rf a:=Vg (BG a)
abbrev Rr a b:=BR (HB a) b
attribute [go_sem] YN Mo XC So Re jY Ta Sc dG Rp gZ Vg Rf Rr
theorem CYW(w:One):(CPX w)=(AB (λi=>GN i (λj=>HC j i (λk=>PU k i 8 24 j 8 0 2 (λl=>XC l k 8 l (λm=>So m l (XO (Rr l m) (Sb m k (Rf m)) (Nf (EG l m) m (gZ 0) (Rp m)) (EG l m) (RB m (dG 0) (Sc m)) (Nf (EE l m) m (BH jY) (Ta m)) (EE l m) (RB m (BK jY) (Re m)))) l (KG l l l l l l l l) i j))))):=by kernel_rfl
def CPI(w:One):Prop:=NT Try.prog A_Cs Lp 11 (Tn 9) (AJ IR) [] To
abbrev lR:=PW 1
attribute [go_sem] lR
theorem CXC(w:One):(CPI w)=(AB (λi=>GN i (λj=>HC j i (λk=>PU k i 9 23 j 9 1 2 (λl=>XC l k 9 l (λm=>So m l (XO (Rr l m) (WM m (JX k) (Rf m)) (BD (EG l m) (WM m (gZ 1) (Rp m))) (EG l m) (WM m (dG 1) (Sc m)) (BD (EE l m) (WM m (BH lR) (Ta m))) (EE l m) (WM m (BK lR) (Re m)))) l (KG l l l l l l l l) i j))))):=by kernel_rfl
def CAP(w:One):Prop:=NT Try.prog A_Cs Lp 11 (Tn 10) (AJ IR) [] To
theorem CKP(w:One):(CAP w)=(AB (λi=>GN i (λj=>HC j i (λk=>PU k i 10 22 j 10 0 2 (λl=>XC l k 10 l (λm=>So m l (XO (Rr l m) (RB m (Vg 0) (Rf m)) (Nf (EG l m) m (gZ 0) (Rp m)) (EG l m) (Sb m k (Sc m)) (Nf (EE l m) m (BH jY) (Ta m)) (EE l m) (RB m (BK jY) (Re m)))) l (KG l l l l l l l l) i j))))):=by kernel_rfl
def CAJ(w:One):Prop:=NT Try.prog A_Cs Lp 11 (Tn 11) (AJ IR) [] To
theorem CNW(w:One):(CAJ w)=(AB (λi=>GN i (λj=>HC j i (λk=>PU k i 11 21 j 11 1 2 (λl=>XC l k 11 l (λm=>So m l (XO (Rr l m) (WM m (Vg 1) (Rf m)) (BD (EG l m) (WM m (JX k) (Rp m))) (EG l m) (WM m (dG 1) (Sc m)) (BD (EE l m) (WM m (BH lR) (Ta m))) (EE l m) (WM m (BK lR) (Re m)))) l (KG l l l l l l l l) i j))))):=by kernel_rfl
def CAY(w:One):Prop:=NT Try.prog A_Cs Lp 11 (Tn 12) (AJ IR) [] To
theorem COJ(w:One):(CAY w)=(AB (λi=>GN i (λj=>HC j i (λk=>PU k i 12 20 j 12 1 2 (λl=>XC l k 12 l (λm=>So m l (XO (Rr l m) (WM m (Vg 1) (Rf m)) (BD (EG l m) (WM m (gZ 1) (Rp m))) (EG l m) (WM m (JX k) (Sc m)) (BD (EE l m) (WM m (BH lR) (Ta m))) (EE l m) (WM m (BK lR) (Re m)))) l (KG l l l l l l l l) i j))))):=by kernel_rfl
def CGD(w:One):Prop:=NT Try.prog A_Cs Lp 11 (Tn 13) (AJ IR) [] To
theorem CLQ(w:One):(CGD w)=(AB (λi=>GN i (λj=>HC j i (λk=>PU k i 13 19 j 13 0 2 (λl=>XC l k 13 l (λm=>So m l (XO (Rr l m) (RB m (Vg 0) (Rf m)) (Nf (EG l m) m (gZ 0) (Rp m)) (EG l m) (RB m (dG 0) (Sc m)) (Nf (EE l m) m (JX k) (Ta m)) (EE l m) (RB m (BK jY) (Re m)))) l (KG l l l l l l l l) i j))))):=by kernel_rfl
def CDZ(w:One):Prop:=NT Try.prog A_Cs Lp 11 (Tn 14) (AJ IR) [] To
theorem CJG(w:One):(CDZ w)=(AB (λi=>GN i (λj=>HC j i (λk=>PU k i 14 18 j 14 1 2 (λl=>XC l k 14 l (λm=>So m l (XO (Rr l m) (WM m (Vg 1) (Rf m)) (BD (EG l m) (WM m (gZ 1) (Rp m))) (EG l m) (WM m (dG 1) (Sc m)) (BD (EE l m) (WM m (BH lR) (Ta m))) (EE l m) (WM m (JX k) (Re m)))) l (KG l l l l l l l l) i j))))):=by kernel_rfl
def CBK(w:One):Prop:=NT Try.prog A_Cs Lp 11 (Tn 15) (AJ IR) [] To
theorem CJO(w:One):(CBK w)=(AB (λi=>GN i (λj=>HC j i (λk=>PU k i 15 17 j 15 0 1 (λl=>TG l k (TK l 15 AG KT k (λm=>Bd m (XW l) m (Sb m k (Ws (SO 1 QT) m))) (Mo l (λm=>KV m l (LD l m) (KZ l m) (EG l m) m (KY l m) (EE l m) m) l (KG l l l l l l l l))) i j))))):=by kernel_rfl
theorem DCZ(w:One):CPX w:=by
 rw[CYW]<;> delta BH BK DY EM EO CH AB CJ CE AY CG MY CW HD KA IG EB FX EC GY GX GR GG DV FO FU FP FS IV ED NR WW JM JF GA QB QT SS TP Az SO YT VT HB XW WS AH CK AX AI BC AV AF BI MK AQ BB AC CN BF AE AO BD AZ BG BR BE BS UT CI GQ BL CY ER FL EV CF AG BX NU HO DN MW DU IC PC LU HH FG LV XU Bz HN ZA DX HE ZM CR PD GT EX CV HT PX DO DI OB HU HW FI NN SP PL JI EE JU LM EG JW SU GK KT OJ KR QH JZ GM GH FA MP PW GO OL CL OA LL NY SV PS SQ PM UM RY QU PV NH RX IY PZ RB OW RF QX OI SH QY QO SB TN QA MM RH OX PK TL JX GN SR RN QL SX TH SJ TT UK TZ UJ SD TM TR HC VA UY UW UB WP SI UE VF UN TS VM TG XJ TI YL QK TK UQ UL Dy YN ZI Mo KG LG Vg PU Nf Vr XO Rf Re Rp XC Sc Ta Rr jY So Sb dG gZ
 exact λa h0 s h1 i h2 h3 h4 h5=>⟨by simp,WG h2 h3 h4 h5⟩
theorem DCE(w:One):CPI w:=by
 rw[CXC]<;> delta BH BK DY EM EO CH AB CJ CE AY CG MY CW HD KA IG EB FX EC GY GX GR GG DV FO FU FP FS IV ED NR WW JM JF GA QB QT SS TP Az SO YT VT HB XW WS AH CK AX AI BC AV AF BI MK AQ BB AC CN BF AE AO BD AZ BG BR BE BS UT CI GQ BL CY ER FL EV CF AG BX NU HO DN MW DU IC PC LU HH FG LV XU HN ZA DX HE ZM CR PD GT EX CV HT PX DO DI OB HU HW FI NN SP PL JI EE JU LM EG JW SU GK KT OJ KR QH JZ GM GH FA MP PW GO OL CL OA LL NY SV PS SQ PM UM RY QU PV NH RX IY PZ OW RF QX OI SH QY QO SB TN QA MM Gn RH OX PK TL JX GN SR RN QL SX TH SJ TT UK TZ UJ SD TM TR HC VA UY UW UB WP SI UE VF UN TS VM TG XJ TI YL WM QK TK UQ UL Dy YN ZI Mo KG LG Vg PU Vr XO Rf Re Rp XC Sc Ta Rr lR So dG gZ
 exact λa h0 s h1 i h2 h3 h4 h5=>⟨by simp,WG h2 h3 h4 h5⟩
theorem CZD(w:One):CAP w:=by
 rw[CKP]<;> delta BH BK DY EM EO CH AB CJ CE AY CG MY CW HD KA IG EB FX EC GY GX GR GG DV FO FU FP FS IV ED NR WW JM JF GA QB QT SS TP Az SO YT VT HB XW WS AH CK AX AI BC AV AF BI MK AQ BB AC CN BF AE AO BD AZ BG BR BE BS UT CI GQ BL CY ER FL EV CF AG BX NU HO DN MW DU IC PC LU HH FG LV XU Bz HN ZA DX HE ZM CR PD GT EX CV HT PX DO DI OB HU HW FI NN SP PL JI EE JU LM EG JW SU GK KT OJ KR QH JZ GM GH FA MP PW GO OL CL OA LL NY SV PS SQ PM UM RY QU PV NH RX IY PZ RB OW RF QX OI SH QY QO SB TN QA MM RH OX PK TL JX GN SR RN QL SX TH SJ TT UK TZ UJ SD TM TR HC VA UY UW UB WP SI UE VF UN TS VM TG XJ TI YL QK TK UQ UL Dy YN ZI Mo KG LG Vg PU Nf Vr XO Rf Re Rp XC Sc Ta Rr jY So Sb gZ
 exact λa h0 s h1 i h2 h3 h4 h5=>⟨by simp,WG h2 h3 h4 h5⟩
theorem CWS(w:One):CAJ w:=by
 rw[CNW]<;> delta BH BK DY EM EO CH AB CJ CE AY CG MY CW HD KA IG EB FX EC GY GX GR GG DV FO FU FP FS IV ED NR WW JM JF GA QB QT SS TP Az SO YT VT HB XW WS AH CK AX AI BC AV AF BI MK AQ BB AC CN BF AE AO BD AZ BG BR BE BS UT CI GQ BL CY ER FL EV CF AG BX NU HO DN MW DU IC PC LU HH FG LV XU HN ZA DX HE ZM CR PD GT EX CV HT PX DO DI OB HU HW FI NN SP PL JI EE JU LM EG JW SU GK KT OJ KR QH JZ GM GH FA MP PW GO OL CL OA LL NY SV PS SQ PM UM RY QU PV NH RX IY PZ OW RF QX OI SH QY QO SB TN QA MM Gn RH OX PK TL JX GN SR RN QL SX TH SJ TT UK TZ UJ SD TM TR HC VA UY UW UB WP SI UE VF UN TS VM TG XJ TI YL WM QK TK UQ UL Dy YN ZI Mo KG LG Vg PU Vr XO Rf Re Rp XC Sc Ta Rr lR So dG
 exact λa h0 s h1 i h2 h3 h4 h5=>⟨by simp,WG h2 h3 h4 h5⟩
theorem CWP(w:One):CAY w:=by
 rw[COJ]<;> delta BH BK DY EM EO CH AB CJ CE AY CG MY CW HD KA IG EB FX EC GY GX GR GG DV FO FU FP FS IV ED NR WW JM JF GA QB QT SS TP Az SO YT VT HB XW WS AH CK AX AI BC AV AF BI MK AQ BB AC CN BF AE AO BD AZ BG BR BE BS UT CI GQ BL CY ER FL EV CF AG BX NU HO DN MW DU IC PC LU HH FG LV XU HN ZA DX HE ZM CR PD GT EX CV HT PX DO DI OB HU HW FI NN SP PL JI EE JU LM EG JW SU GK KT OJ KR QH JZ GM GH FA MP PW GO OL CL OA LL NY SV PS SQ PM UM RY QU PV NH RX IY PZ OW RF QX OI SH QY QO SB TN QA MM Gn RH OX PK TL JX GN SR RN QL SX TH SJ TT UK TZ UJ SD TM TR HC VA UY UW UB WP SI UE VF UN TS VM TG XJ TI YL WM QK TK UQ UL Dy YN ZI Mo KG LG Vg PU Vr XO Rf Re Rp XC Sc Ta Rr lR So gZ
 exact λa h0 s h1 i h2 h3 h4 h5=>⟨by simp,WG h2 h3 h4 h5⟩
theorem CTS(w:One):CGD w:=by
 rw[CLQ]<;> delta BH BK DY EM EO CH AB CJ CE AY CG MY CW HD KA IG EB FX EC GY GX GR GG DV FO FU FP FS IV ED NR WW JM JF GA QB QT SS TP Az SO YT VT HB XW WS AH CK AX AI BC AV AF BI MK AQ BB AC CN BF AE AO BD AZ BG BR BE BS UT CI GQ BL CY ER FL EV CF AG BX NU HO DN MW DU IC PC LU HH FG LV XU Bz HN ZA DX HE ZM CR PD GT EX CV HT PX DO DI OB HU HW FI NN SP PL JI EE JU LM EG JW SU GK KT OJ KR QH JZ GM GH FA MP PW GO OL CL OA LL NY SV PS SQ PM UM RY QU PV NH RX IY PZ RB OW RF QX OI SH QY QO SB TN QA MM RH OX PK TL JX GN SR RN QL SX TH SJ TT UK TZ UJ SD TM TR HC VA UY UW UB WP SI UE VF UN TS VM TG XJ TI YL QK TK UQ UL Dy YN ZI Mo KG LG Vg PU Nf Vr XO Rf Re Rp XC Sc Ta Rr jY So dG gZ
 exact λa h0 s h1 i h2 h3 h4 h5=>⟨by simp,WG h2 h3 h4 h5⟩
theorem CUI(w:One):CDZ w:=by
 rw[CJG]<;> delta BH BK DY EM EO CH AB CJ CE AY CG MY CW HD KA IG EB FX EC GY GX GR GG DV FO FU FP FS IV ED NR WW JM JF GA QB QT SS TP Az SO YT VT HB XW WS AH CK AX AI BC AV AF BI MK AQ BB AC CN BF AE AO BD AZ BG BR BE BS UT CI GQ BL CY ER FL EV CF AG BX NU HO DN MW DU IC PC LU HH FG LV XU HN ZA DX HE ZM CR PD GT EX CV HT PX DO DI OB HU HW FI NN SP PL JI EE JU LM EG JW SU GK KT OJ KR QH JZ GM GH FA MP PW GO OL CL OA LL NY SV PS SQ PM UM RY QU PV NH RX IY PZ OW RF QX OI SH QY QO SB TN QA MM Gn RH OX PK TL JX GN SR RN QL SX TH SJ TT UK TZ UJ SD TM TR HC VA UY UW UB WP SI UE VF UN TS VM TG XJ TI YL WM QK TK UQ UL Dy YN ZI Mo KG LG Vg PU Vr XO Rf Re Rp XC Sc Ta Rr lR So dG gZ
 exact λa h0 s h1 i h2 h3 h4 h5=>⟨by simp,WG h2 h3 h4 h5⟩
theorem CXJ(w:One):CBK w:=by
 rw[CJO]<;> delta BH BK DY EM EO CH AB CJ CE AY CG MY CW HD KA IG EB FX EC GY GX GR GG DV FO FU FP FS IV ED NR WW JM JF GA QB QT SS TP Az SO YT VT HB XW WS AH CK AX AI BC AV AF BI MK AQ BB AC CN BF AE AO BD DD AZ DC BG BR BE BS BJ UT CI GQ BL CY ER FL EV CF AG BX NU CU HO DN MW CX DU IC DR PC LU HH FG LV XU Bz HN ZA DX HE ZM CR PD GT EX CV HT AU PX DO DI OB HU HW FI NN SP PL JI EE JU LM EG JW SU GK KT MH OJ KR QH JZ GM GH FA MP PW GO OL CL OA LL NY SV PS SQ PM UM RY QU PV NH RX IY PZ RB OW RF QX OI SH QY QO SB TN QA MM RH OX PK TL JX GN SR RN QL SX TH SJ TT UK TZ YA UJ SD TM TR HC VA UY XY UW UB WP SI UE VF UN TS VM TG XJ LD KZ KY TI YL QK TK UQ UL KV YN ZI Mo KG Xk PU Bd Sb Ws
 exact λa h0 s h1 i h2 h3 h4 h5=>⟨by simp,WG h2 h3 h4 h5⟩
end Go.Bal

namespace Go.Bal
open Go Go.Sym Go.Proofs
def CDE(w:One):Prop:=NT Try.prog A_Cs Lp 11 (Tn 16) (AJ IR) [] To
abbrev Wp a b:=AY a (JX b)
attribute [go_sem] Wp
theorem COK(w:One):(CDE w)=(AB (λi=>GN i (λj=>HC j i (λk=>Bl k i 16 16 j 16 (λl=>LG l k 16 (YN l (λm=>KV m l (LD l m) (KZ l m) (EG l m) m (KY l m) (EE l m) m) (UK (Wp (CsR.m l) k) l l KR (UB l) l (TM l) (KG l l l l l l l l))) i j))))):=by kernel_rfl
def CDU(w:One):Prop:=NT Try.prog A_Cs Lp 11 (Tn 17) (AJ IR) [] To
theorem CIO(w:One):(CDU w)=(AB (λi=>GN i (λj=>HC j i (λk=>Bl k i 17 15 j 17 (λl=>LG l k 17 (YN l (λm=>KV m l (LD l m) (KZ l m) (EG l m) m (KY l m) (EE l m) m) (TH (OB (CsR.m l)) (Wp (CsR.t l) k) l KR (UB l) l (TM l) (KG l l l l l l l l))) i j))))):=by kernel_rfl
def CBN(w:One):Prop:=NT Try.prog A_Cs Lp 11 (Tn 18) (AJ IR) [] To
theorem CMI(w:One):(CBN w)=(AB (λi=>GN i (λj=>HC j i (λk=>PU k i 18 14 j 18 0 3 (λl=>LG l k 18 (YN l (λm=>KV m l (LD l m) (KZ l m) (EG l m) m (KY l m) (EE l m) m) (UN l KR (AB (λm=>Bd m (PD l) m (Sb m k (Ws (SO 0 (XU 110 405 QT)) m)))) (KG l l l l l l l l))) i j))))):=by kernel_rfl
def CDJ(w:One):Prop:=NT Try.prog A_Cs Lp 11 (Tn 19) (AJ IR) [] To
theorem CNO(w:One):(CDJ w)=(AB (λi=>GN i (λj=>HC j i (λk=>PU k i 19 13 j 19 1 3 (λl=>LG l k 19 (YN l (λm=>KV m l (LD l m) (KZ l m) (EG l m) m (KY l m) (EE l m) m) (UN l KR (AB (λm=>Bd m (PD l) m (WM m (JX k) (Ws (SO 0 (XU 110 405 QT)) m)))) (KG l l l l l l l l))) i j))))):=by kernel_rfl
def CFA(w:One):Prop:=NT Try.prog A_Cs Lp 11 (Tn 20) (AJ IR) [] To
theorem CNE(w:One):(CFA w)=(AB (λi=>GN i (λj=>HC j i (λk=>PU k i 20 12 j 20 2 3 (λl=>LG l k 20 (YN l (λm=>KV m l (LD l m) (KZ l m) (EG l m) m (KY l m) (EE l m) m) (UN l KR (AB (λm=>Bd m (PD l) m (Gn m 2 (JX k) (Ws (SO 0 (XU 110 405 QT)) m)))) (KG l l l l l l l l))) i j))))):=by kernel_rfl
def BZQ(w:One):Prop:=NT Try.prog A_Cs Lp 11 (Tn 21) (AJ IR) [] To
theorem CKL(w:One):(BZQ w)=(AB (λi=>GN i (λj=>HC j i (λk=>PU k i 21 11 j 21 1 3 (λl=>LG l k 21 (YN l (λm=>KV m l (LD l m) (KZ l m) (EG l m) m (KY l m) (EE l m) m) (UY l l l KR (UB l) l (AB (λm=>Bd m (ZA l) m (WM m (JX k) (Ws (SO 700 (XU 1000 800 QT)) m)))) (KG l l l l l l l l))) i j))))):=by kernel_rfl
def CEC(w:One):Prop:=NT Try.prog A_Cs Lp 11 (Tn 22) (AJ IR) [] To
theorem CMY(w:One):(CEC w)=(AB (λi=>GN i (λj=>HC j i (λk=>PU k i 22 10 j 22 0 1 (λl=>XC l k 22 l (λm=>KV m l (LD l m) (KZ l m) (EG l m) m (KY l m) (EE l m) m) l (ZI l (λm=>Bd m (PX l) m (Sb m k (Ws (SO 1 QT) m))) l l l l l l) i j))))):=by kernel_rfl
def CCR(w:One):Prop:=NT Try.prog A_Cs Lp 11 (Tn 23) (AJ IR) [] To
theorem CLB(w:One):(CCR w)=(AB (λi=>GN i (λj=>HC j i (λk=>Bl k i 23 9 j 23 (λl=>XC l k 23 l (λm=>KV m l (LD l m) (KZ l m) (EG l m) m (KY l m) (EE l m) m) l (YL l HN (λm=>QA m l) (Wp (PZ l) k) l l l l l) i j))))):=by kernel_rfl
theorem CYL(w:One):CDE w:=by
 rw[COK]<;> delta BH BK DY EM EO CH AB CJ CE AY CG MY CW HD KA IG EB FX EC GY GX GR GG DV FO FU FP FS IV ED JM JF GA QB QT SS TP Az SO YT VT HB XW WS AH CK AX AI BC AV AF BI MK AQ BB AC CN BF AE AO BD DD AZ DC BG BR BE BS BJ UT CI GQ BL CY ER FL EV CF AG BX CU HO DN MW CX DU IC DR PC LU HH FG LV XU HN ZA DX HE ZM CR PD GT EX CV HT AU PX DO DI OB HW FI NN SP PL JI EE JU LM EG JW SU GK KT MH OJ KR QH JZ GM GH FA MP PW GO OL CL OA LL NY SV PS SQ PM UM RY QU PV NH RX IY PZ OW RF QX OI SH QY QO SB TN QA MM RH OX PK TL JX GN SR RN QL SX TH SJ TT UK TZ YA UJ SD TM TR HC VA XY UW UB WP SI UE VF TS VM TG XJ LD KZ KY TI YL TK UQ UL KV YN ZI KG LG Bl Wp
 exact λa h0 s h1 i h2 h3 h4 h5=>⟨by simp,WG h2 h3 h4 h5⟩
theorem CVT(w:One):CDU w:=by
 rw[CIO]<;> delta BH BK DY EM EO CH AB CJ CE AY CG MY CW HD KA IG EB FX EC GY GX GR GG DV FO FU FP FS IV ED JM JF GA QB QT SS TP Az SO YT VT HB XW WS AH CK AX AI BC AV AF BI MK AQ BB AC CN BF AE AO BD DD AZ DC BG BR BE BS BJ UT CI GQ BL CY ER FL EV CF AG BX CU HO DN MW CX DU IC DR PC LU HH FG LV XU HN ZA DX HE ZM CR PD GT EX CV HT AU PX DO DI OB HW FI NN SP PL JI EE JU LM EG JW SU GK KT MH OJ KR QH JZ GM GH FA MP PW GO OL CL OA LL NY SV PS SQ PM UM RY QU PV NH RX IY PZ OW RF QX OI SH QY QO SB TN QA MM RH OX PK TL JX GN SR RN QL SX TH SJ TT TZ YA UJ SD TM TR HC VA XY UW UB WP SI UE VF TS VM TG XJ LD KZ KY TI YL TK UQ UL KV YN ZI KG LG Bl Wp
 exact λa h0 s h1 i h2 h3 h4 h5=>⟨by simp,WG h2 h3 h4 h5⟩
theorem CZU(w:One):CBN w:=by
 rw[CMI]<;> delta BH BK DY EM EO CH AB CJ CE AY CG MY CW HD KA IG EB FX EC GY GX GR GG DV FO FU FP FS IV ED NR WW JM JF GA QB QT SS TP Az SO YT VT HB XW WS AH CK AX AI BC AV AF BI MK AQ BB AC CN BF AE AO BD DD AZ DC BG BR BE BS BJ UT CI GQ BL CY ER FL EV CF AG BX NU CU HO DN MW CX DU IC DR PC LU HH FG LV XU Bz HN ZA DX HE ZM CR PD GT EX CV HT AU PX DO DI OB HU HW FI NN SP PL JI EE JU LM EG JW SU GK KT MH OJ KR QH JZ GM GH FA MP PW GO OL CL OA LL NY SV PS SQ PM UM RY QU PV NH RX IY PZ RB OW RF QX OI SH QY QO SB TN QA MM RH OX PK TL JX GN SR RN QL SX TH SJ TT UK TZ YA UJ SD TM TR HC VA UY XY UW WP SI UE VF UN TS VM TG XJ LD KZ KY TI YL TK UQ UL KV YN ZI KG LG Xk PU Bd Sb Ws
 exact λa h0 s h1 i h2 h3 h4 h5=>⟨by simp,WG h2 h3 h4 h5⟩
theorem CTN(w:One):CDJ w:=by
 rw[CNO]<;> delta BH BK DY EM EO CH AB CJ CE AY CG MY CW HD KA IG EB FX EC GY GX GR GG DV FO FU FP FS IV ED NR WW JM JF GA QB QT SS TP Az SO YT VT HB XW WS AH CK AX AI BC AV AF BI MK AQ BB AC CN BF AE AO BD DD AZ DC BG BR BE BS BJ UT CI GQ BL CY ER FL EV CF AG BX NU CU HO DN MW CX DU IC DR PC LU HH FG LV XU HN ZA DX HE ZM CR PD GT EX CV HT AU PX DO DI OB HU HW FI NN SP PL JI EE JU LM EG JW SU GK KT MH OJ KR QH JZ GM GH FA MP PW GO OL CL OA LL NY SV PS SQ PM UM RY QU PV NH RX IY PZ OW RF QX OI SH QY QO SB TN QA MM Gn RH OX PK TL JX GN SR RN QL SX TH SJ TT UK TZ YA UJ SD TM TR HC VA UY XY UW WP SI UE VF UN TS VM TG XJ LD KZ KY TI YL WM TK UQ UL KV YN ZI KG LG Xk PU Bd Ws
 exact λa h0 s h1 i h2 h3 h4 h5=>⟨by simp,WG h2 h3 h4 h5⟩
theorem CZF(w:One):CFA w:=by
 rw[CNE]<;> delta BH BK DY EM EO CH AB CJ CE AY CG MY CW HD KA IG EB FX EC GY GX GR GG DV FO FU FP FS IV ED NR WW JM JF GA QB QT SS TP Az SO YT VT HB XW WS AH CK AX AI BC AV AF BI MK AQ BB AC CN BF AE AO BD DD AZ DC BG BR BE BS BJ UT CI GQ BL CY ER FL EV CF AG BX NU CU HO DN MW CX DU IC DR PC LU HH FG LV XU HN ZA DX HE ZM CR PD GT EX CV HT AU PX DO DI OB HU HW FI NN SP PL JI EE JU LM EG JW SU GK KT MH OJ KR QH JZ GM GH FA MP PW GO OL CL OA LL NY SV PS SQ PM UM RY QU PV NH RX IY PZ OW RF QX OI SH QY QO SB TN QA MM Gn RH OX PK TL JX GN SR RN QL SX TH SJ TT UK TZ YA UJ SD TM TR HC VA UY XY UW WP SI UE VF UN TS VM TG XJ LD KZ KY TI YL TK UQ UL KV YN ZI KG LG Xk PU Bd Ws
 exact λa h0 s h1 i h2 h3 h4 h5=>⟨by simp,WG h2 h3 h4 h5⟩
theorem CVJ(w:One):BZQ w:=by
 rw[CKL]<;> delta BH BK DY EM EO CH AB CJ CE AY CG MY CW HD KA IG EB FX EC GY GX GR GG DV FO FU FP FS IV ED NR WW JM JF GA QB QT SS TP Az SO YT VT HB XW WS AH CK AX AI BC AV AF BI MK AQ BB AC CN BF AE AO BD DD AZ DC BG BR BE BS BJ UT CI GQ BL CY ER FL EV CF AG BX NU CU HO DN MW CX DU IC DR PC LU HH FG LV XU HN ZA DX HE ZM CR PD GT EX CV HT AU PX DO DI OB HU HW FI NN SP PL JI EE JU LM EG JW SU GK KT MH OJ KR QH JZ GM GH FA MP PW GO OL CL OA LL NY SV PS SQ PM UM RY QU PV NH RX IY PZ OW RF QX OI SH QY QO SB TN QA MM Gn RH OX PK TL JX GN SR RN QL SX TH SJ TT UK TZ YA UJ SD TR HC VA UY XY UW UB WP SI UE VF TS VM TG XJ LD KZ KY TI YL WM TK UQ UL KV YN ZI KG LG Xk PU Bd Ws
 exact λa h0 s h1 i h2 h3 h4 h5=>⟨by simp,WG h2 h3 h4 h5⟩
theorem CWZ(w:One):CEC w:=by
 rw[CMY]<;> delta BH BK DY EM EO CH AB CJ CE AY CG MY CW HD KA IG EB FX EC GY GX GR GG DV FO FU FP FS IV ED NR WW JM JF GA QB QT SS TP Az SO YT VT HB XW WS AH CK AX AI BC AV AF BI MK AQ BB AC CN BF AE AO BD DD AZ DC BG BR BE BS BJ UT CI GQ BL CY ER FL EV CF AG BX NU CU HO DN MW CX DU IC DR PC LU HH FG LV XU Bz HN ZA DX HE ZM CR PD GT EX CV HT AU PX DO DI OB HU HW FI NN SP PL JI EE JU LM EG JW SU GK KT MH OJ KR QH JZ GM GH FA MP PW GO OL CL OA LL NY SV PS SQ PM UM RY QU PV NH RX IY PZ RB OW RF QX OI SH QY QO SB TN MM RH OX PK TL JX GN SR RN QL SX TH SJ TT UK TZ YA UJ SD TM TR HC VA UY XY UW UB WP SI UE VF UN TS VM TG XJ LD KZ KY TI YL QK TK UQ UL KV YN ZI Mo LG Xk PU Bd XC Sb Ws
 exact λa h0 s h1 i h2 h3 h4 h5=>⟨by simp,WG h2 h3 h4 h5⟩
theorem CYB(w:One):CCR w:=by
 rw[CLB]<;> delta BH BK DY EM EO CH AB CJ CE AY CG MY CW HD KA IG EB FX EC GY GX GR GG DV FO FU FP FS IV ED JM JF GA QB QT SS TP Az SO YT VT HB XW WS AH CK AX AI BC AV AF BI MK AQ BB AC CN BF AE AO BD DD AZ DC BG BR BE BS BJ UT CI GQ BL CY ER FL EV CF AG BX CU HO DN MW CX DU IC DR PC LU HH FG LV XU HN ZA DX HE ZM CR PD GT EX CV HT AU PX DO DI OB HW FI NN SP PL JI EE JU LM EG JW SU GK KT MH OJ KR QH JZ GM GH FA MP PW GO OL CL OA LL NY SV PS SQ PM UM RY QU PV NH RX IY PZ OW RF QX OI SH QY SB TN QA MM RH OX PK TL JX GN SR RN QL SX TH SJ TT UK TZ YA UJ SD TM TR HC VA UY XY UW UB WP SI UE VF UN TS VM TG XJ LD KZ KY TI YL QK TK UQ UL KV YN Mo LG XC Bl Wp
 exact λa h0 s h1 i h2 h3 h4 h5=>⟨by simp,WG h2 h3 h4 h5⟩
end Go.Bal
