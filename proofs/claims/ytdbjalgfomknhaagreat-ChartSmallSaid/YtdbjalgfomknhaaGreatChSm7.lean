/- ChartSmall: parts, the end. -/
import Derived.Test.YtdbjalgfomknhaaGreatChSm1
import Derived.Test.YtdbjalgfomknhaaGreatChSm6
set_option linter.unusedVariables false
set_option linter.unusedSimpArgs false
namespace Go.Bal
open Go Go.Sym Go.Proofs
def CAZ(w:One):Prop:=L_Cs 56
abbrev wB:=P6 vS
abbrev Z1 a:=Md 0 (VJ (FP (RV a)))
attribute [go_sem] wB Z1
theorem CMX(w:One):(CAZ w)=(AB (λi=>FA i 10 (oW (iA (λj=>CJ (Ai j i) (And (Ki (GI j) (λk=>AT k (GI j) (AM (GI j) k) (AN (GI j) k) (AS (GI j) k) (WI j k) (AL (GI j) k) (AR (GI j) k) (WN j k)) (Uw (not (tM (Ob (Ao (GI j))) (IB (Ie (Cv j)) (FK (Cv j) 41)))) (TY (JR j) (λk=>AT k (JR j) (AM (JR j) k) (AN (JR j) k) (AS (JR j) k) (uP j k) (AL (JR j) k) (AR (JR j) k) (uF j k)) (RQ (JR j)) (IL (JR j))))) (bE (not (tM (Ob (Ao (GI j))) (IB (Ie (Cv j)) (FK (Cv j) 41)))) (tM (Ob (Ao (JR j))) (IB (Ie (Cv j)) (FK (Cv j) 21))) (And (Ga (GI j) (cA (DK (GI j)) (BO (GI j)) (AB (λk=>AT k (GI j) (AM (GI j) k) (AN (GI j) k) (AS (GI j) k) (WI j k) (AL (GI j) k) (AR (GI j) k) (WN j k))) (Bn csI0) (AF (VJ (Cv j))) (ZZ 5050 5050) AG (Vt (BB AG (PO (TY (GI j) (λk=>AT k (GI j) (AM (GI j) k) (AN (GI j) k) (AS (GI j) k) (WI j k) (AL (GI j) k) (AR (GI j) k) (WN j k)) (ZZ (JM (uX K7 (Ou wB))) 1) (Sz (Si (JF (uX K7 (Ou wB)))) (ZZ 1 1) AG (CJ (DZ (fG (GI j))) (dF (GI j)))))) (PO (Ga (GI j) (cA (DK (GI j)) (BO (GI j)) (AB (λk=>AT k (GI j) (AM (GI j) k) (AN (GI j) k) (AS (GI j) k) (WI j k) (AL (GI j) k) (AR (GI j) k) (WN j k))) (Bn csI0) (ZZ 5040 5040) (ZZ 5000 5000) (ZZ 5050 5050) (ZZ 800 800)))) (PO (AH WZ (BX (Z1 j)) (Hr (Z1 j) (FP (RV j))))) (PO (TY (JR j) (λk=>AT k (JR j) (AM (JR j) k) (AN (JR j) k) (AS (JR j) k) (uP j k) (AL (JR j) k) (AR (JR j) k) (uF j k)) (EV (WE (sQ (Z1 j)) (RV j) Bp) (sQ (Z1 j))) (Oh (AB (λk=>HH k (WE (QI (HM (Z1 j))) (RV j) BG) (WE (sQ (Z1 j)) (RV j) Bp) k (RV j) (Bp k))) Sx AG (Vt AG)))) (PO (TY (JR j) (λk=>AT k (JR j) (AM (JR j) k) (AN (JR j) k) (AS (JR j) k) (uP j k) (AL (JR j) k) (AR (JR j) k) (uF j k)) (HL (RV j)) (Oh (QW (RV j)) Sx AG (Vt AG)))) (PO (Ga (JR j) (Jt (JR j) (λk=>AT k (JR j) (AM (JR j) k) (AN (JR j) k) (AS (JR j) k) (uP j k) (AL (JR j) k) (AR (JR j) k) (uF j k)) (Si (JM (uX wB (Ou K7)))) (ZZ (JF (uX wB (Ou K7))) 1) (EF (Cv j)) (JI (Wj (tU j)) (KD j)) (XM (Wj (tU j)) (tU j)) (CJ (DZ (fG (JR j))) (dF (JR j)))))) (PO (FY (DX (Cv j)) (EF (Cv j)) (HD (jO j) 9223372036854775807) (HD (Qu (CG 16) (jO j)) 281474976710656))) (PO (Ga (JR j) (Jt (JR j) (λk=>AT k (JR j) (AM (JR j) k) (AN (JR j) k) (AS (JR j) k) (uP j k) (AL (JR j) k) (AR (JR j) k) (uF j k)) (Si (JM (uX wB (Ou wB)))) (Si (JF (uX wB (Ou wB)))) Sx (JI (lH (Cv j) (λk=>ofV (AEI (ADV (fO ADT))))) (Cv j)) (AB (λk=>LL k (lH (Cv j) (λl=>ofV (AEI (ADV (fO ADT))))) 0 0)) (CJ (DZ (fG (JR j))) (dF (JR j)))))))))) (KI (λk=>Jj (Lc NG EN (BA k (CsZ.i j)) Cc) (ED k 10) 10 k i)))))))))):=by kernel_rfl
def CAG(w:One):Prop:=L_Cs 61
theorem CLT(w:One):(CAG w)=(Dw (And (N4 BP (S3 BP AG (Yw AG BP (S3 BP AG (Yw AG (PO (YX BP (Yw BP AG (Yw AG BP (M3 BP AG (CJ Hy (AGI 3 (CW 0 12)))))))) (PO (YX BP (Yw BP AG (Vt (oN AG BP BP BP)))))))))) IU)):=by kernel_rfl
theorem CUW(w:One):CAG w:=by
 rw[CLT]<;> delta MD Iv CH CJ AY MY CW IP LW Qj AH AI AF BI GJ oN Jc YX Sz Yw M3 N4 Oh S3 ER AG BP IU PO ZZ Si Qv AGI Dw Hy Vt;simp only[CC,eq_self,implies_true,forall_const]
 exact λ_=>Nat.zero_le _
theorem CZL(w:One):CAZ w:=by
 rw[CMX]<;> delta MD N6 Iv BH BK DY RD RU Mr EM EO CH AB CJ CE AY CG MY CW FV NL HD UI Md IG EB FX EC GY GX GR GG DV FO FU KI FP FS El Og LW WB US HM IV AEI ADV ADT ED Qu JM JF GA QB tM lU AEJ Cv iA tU AH CK IW AX JE AI WE BC AV AF IK IN oW BI GJ Jc Sz Qq Yw N4 Oh AQ WV JB BB AC BZ CN BF MC AE AO BD HK DD LZ AZ DC BG BR BE BS BJ JQ AR BQ GI WQ cA SZ BV HF CI OC EQ GQ AS BM CY BY ER FL EV CF AG IE HR BX CU GW HO MW CX OE LH FQ DF DU HY Wj IC DR PC OD EA DT JR LU HH FE FG FW LV AT IZ MJ JA ZN IT DX OF CR GT JJ BA HT CS T6 GZ KD Xg DZ BO BW JH FI AL AN AM LJ KO ID FK DK JI IU KE EN Kr HL EF LM Mc G9 FA MP IB Td VJ QE OA MR Fi LL NY PO FH IL FY PM uI ZZ Cn UP RV WN WI NG Ao QW vS Cg SA Si RQ Ai XM Bf YH Fp WZ QI Hr Pn Ie Gt uX Bp Bn vB fO TY Cc Pz Lx Om Jt Ga Vj Ou Ob Sx qP Lc Vt Uw wB bE fG jO Ki uF lH Z1 uP sQ K7 Jj dF;simp only[CC,eq_self,implies_true,forall_const,FR]
 intro a ha s ⟨s1,s2,s3⟩
 have n42:=ALA s3
 have c1:=CZN s3
 have c2:=CZK s3
 have d1:=CWA s.n
 have d2:=CTW s3
 have e1:Cht.mk (Fl s.n).p (Fl s.n).base (Fl s.n).scale (Fl s.n).off (Fl s.n).ms (Fl s.n).ns=Fl s.n:=rfl
 have e2:Cht.mk (Nl s.n).p (Nl s.n).base (Nl s.n).scale (Nl s.n).off (Nl s.n).ms (Nl s.n).ns=Nl s.n:=rfl
 have g0:decide ((s.n:Int)>0)=decide (0<s.n):=decide_eq_decide.2 ⟨λh=>by omega,λh=>by omega⟩
 have g1:decide ((s.n:Int)<41)=decide (s.n<41):=decide_eq_decide.2 ⟨λh=>by omega,λh=>by omega⟩
 have g2:decide ((s.n:Int)<21)=decide (s.n<21):=decide_eq_decide.2 ⟨λh=>by omega,λh=>by omega⟩
 have bc:∀p q:Bool,(bif p then q else false)=(p&&q):=λp q=>by cases p<;>rfl
 have l1:(Fl s.n).ms.length<4611686018427387904/\(Fl s.n).ns.length<4611686018427387904:=by
  have h1:(Fl s.n).ms.length=s.n:=AJS _
  have h2:(Fl s.n).ns.length<=2:=by
   show (csLn s.n).length<=2
   unfold csLn
   split
   ·exact (by decide:2<=2)
   ·exact Nat.zero_le _
  omega
 have l2:(Nl s.n).ms.length<4611686018427387904/\(Nl s.n).ns.length<4611686018427387904:=by
  have h1:(Nl s.n).ms.length=min s.n 40:=AYM _
  have h2:(Nl s.n).ns.length=min s.n 22:=AZQ _
  omega
 have l3:(P7 (min s.n 40)).length=min s.n 40:=AHX _
 have l4:0<=HJ 0 (IntKind.i64.wrap (((P7 (min s.n 40)).length:Int)-1))/\HJ 0 (IntKind.i64.wrap (((P7 (min s.n 40)).length:Int)-1))<=((P7 (min s.n 40)).length:Int):=by
  rw[l3,show IntKind.i64.wrap (((min s.n 40:Nat):Int)-1)=((min s.n 40:Nat):Int)-1 from Ap (by omega) (by omega)]
  unfold HJ;split<;>omega
 simp only[e1,e2,c1,c2,g0,g1,g2,bc,beq_self_eq_true,Bool.not_true,cond_false,cond_true]
 refine⟨⟨l1,λ_=>l2⟩,λh=>(by cases h),λ_=>⟨⟨rfl,rfl,rfl,⟨rfl,rfl,rfl,d1⟩,⟨rfl,rfl,rfl,rfl,rfl,rfl⟩,⟨Int.le_refl _,l4⟩,⟨λi hi=>FF _ _ _ hi,rfl⟩,rfl,⟨rfl,rfl,d2⟩,⟨by omega,by omega,by omega⟩,rfl,rfl,rfl,λi hi=>?_,d2⟩,s.i+1,(II (by omega)).symm,by omega,by omega⟩⟩
 rw[FF _ _ _ hi];exact⟨rfl,rfl⟩
end Go.Bal

namespace Go.Bal
open Go Go.Sym Go.Proofs
def CPN(w:One):Prop:=NT Try.prog A_Cs Lp 11 (Tn 0) (AJ IR) [] To
abbrev HC a b(c:Nat->Prop):=OW (PK a 42 b 32) c
abbrev SU a b c d:=AV a b (CJ c d)
abbrev TI a b c d e f:=SU a 42 (PL a b) (SU c 32 (MW d 32 (TP e)) f)
abbrev SR a b:=CL a 32 b
abbrev Bl a b c d e f(g:CsR->Prop):=TI a b c d e (SR f ((@Exists CsR) g))
abbrev TG a b c d e:=BL (NN csV (YT a) b) c (SD a 42 d a e)
abbrev TK a b c d e(f:Nat->Prop) g:=DI (CV (VT a) b) c d OI (CV (YT a) e) (QH (XW a)) HN f g
abbrev SP a b c d:=ZM a b b a (SO c d) a
abbrev SV a b:=SP a b 1 QT
abbrev LG a b c d e f:=TG a b (TK a c AG KT b (λi=>SV i (XW a)) d) e f
abbrev SX a b(c:Nat->Prop) d e f g h:=IY (JI (WS a) 1) b c d OX e f g h
abbrev TZ a b(c:Nat->Prop) d e f g h:=SX a b c d e f (GO (HB g) csO) h
abbrev VA a b(c:Nat->Prop) d e f g h:=TZ a b c d e (CY (HB f) csO) g h
abbrev TR a b c d(e:Nat->Prop) f g(h:Nat->Prop) p:=QL a b (DO (HB c) 3) d e (OJ (HB f)) g h p
abbrev UE a b c(d:Nat->Prop) e(f:Nat->Prop) g:=TR a (GK (HB b) csO) b c d b e f g
abbrev TS a b c(d:Nat->Prop) e(f:Nat->Prop) g:=UE (GH (HB a) csO) b c d e f g
abbrev RH a b:=BS (HB a) b
abbrev QX a:=AX (HB a)
abbrev VM a b:=RN a (QX b) (HB b) csO (RH b a)
abbrev UL a(b:Nat->Prop) c:=TS a a KR (λi=>VM i a) MM b c
abbrev TH a b c d e f g h:=UT a b (EV (PD c) 3) d e (EV (ZA f) 3) g h
abbrev UK a b c d e f g h:=TH a (AY (CsR.t b) 110) c d e f g h
abbrev UY a b c d e f g h:=UK (OB (CsR.m a)) b c d e f g h
abbrev SQ a b c d:=AB (λi=>SP i a b (XU c d QT))
abbrev TM a:=SQ (ZA a) 700 1000 800
abbrev UN a b c d:=UY a a a b c a (TM a) d
abbrev UB a:=SQ (PD a) 0 110 405
abbrev QK a b:=UN a KR (UB a) b
abbrev SJ a b(c:Nat->Prop) d e f g h p:=CR (QH (PX a)) b c d e f g h p
abbrev SH a b:=AY (CsR.s a) b
abbrev UJ a b(c:Nat->Prop) d e f g h p:=SJ a b c d e f g h (SH p 1000)
abbrev UW a b(c:Nat->Prop) d e f g h p:=UJ a b c d e f g (AY (CsR.o h) 110) p
abbrev TN a:=FG (CsR.f a)
abbrev WP a b(c:Nat->Prop) d e f g h p:=UW a b c d e f (TN g) h p
abbrev SB a:=OB (CsR.y a)
abbrev XJ a b(c:Nat->Prop) d e f g h p:=WP a b c d e (SB f) g h p
abbrev QY a:=OB (PV a)
abbrev YL a b(c:Nat->Prop) d e f g h p:=XJ a b c d (QY e) f g h p
abbrev QO a:=FG (PZ a)
abbrev ZI a(b:Nat->Prop) c d e f g h:=YL a HN b (QO c) d e f g h
abbrev QA a b:=SV a (PX b)
abbrev KG a b c d e f g h:=ZI a (λi=>QA i b) c d e f g h
abbrev RX a:=PW (BG a)
abbrev RY a:=PS (BG a)
abbrev KV a b c d e f g h p:=AU a (HB b) c d e (RY f) g h (RX p)
abbrev KY a b:=CU (EE a b) csO (BG b)
abbrev KZ a b:=YA (EG a b) csO b
abbrev LD a b:=XY (HB a) b csO b
abbrev JX a:=FS csV a
abbrev SI a b:=UM a (WS b) OL (BG a)
attribute [go_sem] HC SU TI SR Bl TG TK SP SV LG SX TZ VA TR UE TS RH QX VM UL TH UK UY SQ TM UN UB QK SJ SH UJ UW TN WP SB XJ QY YL QO ZI QA KG RX RY KV KY KZ LD JX SI
theorem CYF(w:One):(CPN w)=(AB (λi=>GN i (λj=>HC j i (λk=>Bl k i 0 32 j 0 (λl=>LG l k 0 (VA l HN (λm=>SI m l) KT (BD (EC (HB l)) (JX k)) l l (UL l (λm=>KV m l (LD l m) (KZ l m) (EG l m) m (KY l m) (EE l m) m) (QK l (KG l l l l l l l l)))) i j))))):=by kernel_rfl
def CQH(w:One):Prop:=NT Try.prog A_Cs Lp 11 (Tn 1) (AJ IR) [] To
abbrev TT a:=GM (HB a) csO
attribute [go_sem] TT
theorem CTL(w:One):(CQH w)=(AB (λi=>GN i (λj=>HC j i (λk=>Bl k i 1 31 j 1 (λl=>LG l k 1 (TZ l HN (λm=>SI m l) KT (TT l) (BC (EC (HB l)) (JX k)) l (UL l (λm=>KV m l (LD l m) (KZ l m) (EG l m) m (KY l m) (EE l m) m) (QK l (KG l l l l l l l l)))) i j))))):=by kernel_rfl
def CRL(w:One):Prop:=NT Try.prog A_Cs Lp 11 (Tn 2) (AJ IR) [] To
theorem CYV(w:One):(CRL w)=(AB (λi=>GN i (λj=>HC j i (λk=>Bl k i 2 30 j 2 (λl=>LG l k 2 (SX l HN (λm=>SI m l) KT (TT l) (CY (HB l) csO) (JZ (HB l) (JX k)) (UL l (λm=>KV m l (LD l m) (KZ l m) (EG l m) m (KY l m) (EE l m) m) (QK l (KG l l l l l l l l)))) i j))))):=by kernel_rfl
def CPD(w:One):Prop:=NT Try.prog A_Cs Lp 11 (Tn 3) (AJ IR) [] To
abbrev VF a b(c:Nat->Prop) d e:=VA a b c d (TT a) a a e
abbrev UQ a b:=VF a HN (λi=>SI i a) KT b
attribute [go_sem] VF UQ
theorem CUV(w:One):(CPD w)=(AB (λi=>GN i (λj=>HC j i (λk=>Bl k i 3 29 j 3 (λl=>LG l k 3 (UQ l (UE (JW (HB l) (JX k)) l KR (λm=>VM m l) MM (λm=>KV m l (LD l m) (KZ l m) (EG l m) m (KY l m) (EE l m) m) (QK l (KG l l l l l l l l)))) i j))))):=by kernel_rfl
def CQR(w:One):Prop:=NT Try.prog A_Cs Lp 11 (Tn 4) (AJ IR) [] To
theorem CWY(w:One):(CQR w)=(AB (λi=>GN i (λj=>HC j i (λk=>Bl k i 4 28 j 4 (λl=>LG l k 4 (UQ l (TR (GH (HB l) csO) (JU (HB l) (JX k)) l KR (λm=>VM m l) l MM (λm=>KV m l (LD l m) (KZ l m) (EG l m) m (KY l m) (EE l m) m) (QK l (KG l l l l l l l l)))) i j))))):=by kernel_rfl
def CPV(w:One):Prop:=NT Try.prog A_Cs Lp 11 (Tn 5) (AJ IR) [] To
abbrev PU a b c d e f g h(p:CsR->Prop):=TI a b c d e (And (SR f (HU g h)) ((@Exists CsR) p))
abbrev Sb a b c:=RB a (JX b) c
attribute [go_sem] PU Sb
theorem CYM(w:One):(CPV w)=(AB (λi=>GN i (λj=>HC j i (λk=>PU k i 5 27 j 5 0 3 (λl=>LG l k 5 (UQ l (TS l l KR (λm=>CI m (QX l) (BE (HB l) m) (Sb m k (BE csO (BG m))) (RH l m) (RB m (BS csO 0) (BS csO (BG m)))) MM (λm=>KV m l (LD l m) (KZ l m) (EG l m) m (KY l m) (EE l m) m) (QK l (KG l l l l l l l l)))) i j))))):=by kernel_rfl
def CQD(w:One):Prop:=NT Try.prog A_Cs Lp 11 (Tn 6) (AJ IR) [] To
abbrev WM a b c:=Gn a 1 b c
attribute [go_sem] WM
theorem CZE(w:One):(CQD w)=(AB (λi=>GN i (λj=>HC j i (λk=>PU k i 6 26 j 6 1 3 (λl=>LG l k 6 (UQ l (TS l l KR (λm=>CI m (QX l) (BE (HB l) m) (WM m (JX k) (BE csO (BG m))) (RH l m) (WM m (BS csO 1) (BS csO (BG m)))) MM (λm=>KV m l (LD l m) (KZ l m) (EG l m) m (KY l m) (EE l m) m) (QK l (KG l l l l l l l l)))) i j))))):=by kernel_rfl
def CSF(w:One):Prop:=NT Try.prog A_Cs Lp 11 (Tn 7) (AJ IR) [] To
theorem CXQ(w:One):(CSF w)=(AB (λi=>GN i (λj=>HC j i (λk=>PU k i 7 25 j 7 2 3 (λl=>LG l k 7 (UQ l (TS l l KR (λm=>CI m (QX l) (BE (HB l) m) (Gn m 2 (BE csO 2) (BE csO (BG m))) (RH l m) (Gn m 2 (JX k) (BS csO (BG m)))) MM (λm=>KV m l (LD l m) (KZ l m) (EG l m) m (KY l m) (EE l m) m) (QK l (KG l l l l l l l l)))) i j))))):=by kernel_rfl
theorem CZX(w:One):CPN w:=by
 rw[CYF]<;> delta BH BK DY EM EO CH AB CJ CE AY CG MY CW HD KA IG EB FX EC GY GX GR GG DV FO FU FP FS IV ED JM JF GA QB QT SS TP Az SO YT VT HB XW WS AH CK AX AI BC AV AF BI MK AQ BB AC CN BF AE AO BD DD AZ DC BG BR BE BS BJ UT CI GQ BL CY ER FL EV CF AG BX CU HO DN MW CX DU IC DR PC LU HH FG LV XU HN ZA DX HE ZM CR PD GT EX CV HT AU PX DO DI OB HW FI NN SP PL JI EE JU LM EG JW SU GK KT MH OJ KR QH JZ GH FA MP PW GO OL CL OA LL NY SV PS SQ PM UM RY QU PV NH RX IY PZ OW RF QX OI SH QY QO SB TN QA MM RH OX PK TL JX GN SR RN QL SX TH SJ UK TZ YA UJ SD TM TR HC VA UY XY UW UB WP SI UE UN TS VM TG XJ LD KZ KY TI YL QK TK UL KV ZI KG LG Bl
 exact λa h0 s h1 i h2 h3 h4 h5=>⟨by simp,WG h2 h3 h4 h5⟩
theorem DDX(w:One):CQH w:=by
 rw[CTL]<;> delta BH BK DY EM EO CH AB CJ CE AY CG MY CW HD KA IG EB FX EC GY GX GR GG DV FO FU FP FS IV ED JM JF GA QB QT SS TP Az SO YT VT HB XW WS AH CK AX AI BC AV AF BI MK AQ BB AC CN BF AE AO BD DD AZ DC BG BR BE BS BJ UT CI GQ BL ER FL EV CF AG BX CU HO DN MW CX DU IC DR PC LU HH FG LV XU HN ZA DX HE ZM CR PD GT EX CV HT AU PX DO DI OB HW FI NN SP PL JI EE JU LM EG JW SU GK KT MH OJ KR QH JZ GM GH FA MP PW GO OL CL OA LL NY SV PS SQ PM UM RY QU PV NH RX IY PZ OW RF QX OI SH QY QO SB TN QA MM RH OX PK TL JX GN SR RN QL SX TH SJ TT UK TZ YA UJ SD TM TR HC UY XY UW UB WP SI UE UN TS VM TG XJ LD KZ KY TI YL QK TK UL KV ZI KG LG Bl
 exact λa h0 s h1 i h2 h3 h4 h5=>⟨by simp,WG h2 h3 h4 h5⟩
theorem DDQ(w:One):CRL w:=by
 rw[CYV]<;> delta BH BK DY EM EO CH AB CJ CE AY CG MY CW HD KA IG EB FX EC GY GX GR GG DV FO FU FP FS IV ED JM JF GA QB QT SS TP Az SO YT VT HB XW WS AH CK AX AI BC AV AF BI MK AQ BB AC CN BF AE AO BD DD AZ DC BG BR BE BS BJ UT CI GQ BL CY ER FL EV CF AG BX CU HO DN MW CX DU IC DR PC LU HH FG LV XU HN ZA DX HE ZM CR PD GT EX CV HT AU PX DO DI OB HW FI NN SP PL JI EE JU LM EG JW SU GK KT MH OJ KR QH JZ GM GH FA MP PW OL CL OA LL NY SV PS SQ PM UM RY QU PV NH RX IY PZ OW RF QX OI SH QY QO SB TN QA MM RH OX PK TL JX GN SR RN QL SX TH SJ TT UK YA UJ SD TM TR HC UY XY UW UB WP SI UE UN TS VM TG XJ LD KZ KY TI YL QK TK UL KV ZI KG LG Bl
 exact λa h0 s h1 i h2 h3 h4 h5=>⟨by simp,WG h2 h3 h4 h5⟩
theorem DEK(w:One):CPD w:=by
 rw[CUV]<;> delta BH BK DY EM EO CH AB CJ CE AY CG MY CW HD KA IG EB FX EC GY GX GR GG DV FO FU FP FS IV ED JM JF GA QB QT SS TP Az SO YT VT HB XW WS AH CK AX AI BC AV AF BI MK AQ BB AC CN BF AE AO BD DD AZ DC BG BR BE BS BJ UT CI GQ BL CY ER FL EV CF AG BX CU HO DN MW CX DU IC DR PC LU HH FG LV XU HN ZA DX HE ZM CR PD GT EX CV HT AU PX DO DI OB HW FI NN SP PL JI EE JU LM EG JW SU GK KT MH OJ KR QH JZ GM FA MP PW GO OL CL OA LL NY SV PS SQ PM UM RY QU PV NH RX IY PZ OW RF QX OI SH QY QO SB TN QA MM RH OX PK TL JX GN SR RN QL SX TH SJ TT UK TZ YA UJ SD TM TR HC VA UY XY UW UB WP SI UE VF UN VM TG XJ LD KZ KY TI YL QK TK UQ KV ZI KG LG Bl
 exact λa h0 s h1 i h2 h3 h4 h5=>⟨by simp,WG h2 h3 h4 h5⟩
theorem DDE(w:One):CQR w:=by
 rw[CWY]<;> delta BH BK DY EM EO CH AB CJ CE AY CG MY CW HD KA IG EB FX EC GY GX GR GG DV FO FU FP FS IV ED JM JF GA QB QT SS TP Az SO YT VT HB XW WS AH CK AX AI BC AV AF BI MK AQ BB AC CN BF AE AO BD DD AZ DC BG BR BE BS BJ UT CI GQ BL CY ER FL EV CF AG BX CU HO DN MW CX DU IC DR PC LU HH FG LV XU HN ZA DX HE ZM CR PD GT EX CV HT AU PX DO DI OB HW FI NN SP PL JI EE JU LM EG JW SU KT MH OJ KR QH JZ GM GH FA MP PW GO OL CL OA LL NY SV PS SQ PM UM RY QU PV NH RX IY PZ OW RF QX OI SH QY QO SB TN QA MM RH OX PK TL JX GN SR RN QL SX TH SJ TT UK TZ YA UJ SD TM TR HC VA UY XY UW UB WP SI VF UN VM TG XJ LD KZ KY TI YL QK TK UQ KV ZI KG LG Bl
 exact λa h0 s h1 i h2 h3 h4 h5=>⟨by simp,WG h2 h3 h4 h5⟩
theorem DDL(w:One):CPV w:=by
 rw[CYM]<;> delta BH BK DY EM EO CH AB CJ CE AY CG MY CW HD KA IG EB FX EC GY GX GR GG DV FO FU FP FS IV ED NR WW JM JF GA QB QT SS TP Az SO YT VT HB XW WS AH CK AX AI BC AV AF BI MK AQ BB AC CN BF AE AO BD DD AZ DC BG BR BE BS BJ UT CI GQ BL CY ER FL EV CF AG BX NU CU HO DN MW CX IC DR PC LU HH FG LV XU Bz HN ZA DX HE ZM CR PD GT EX CV HT AU PX DO DI OB HU HW FI NN SP PL JI EE JU LM EG JW SU GK KT MH OJ KR QH JZ GM GH FA MP PW GO OL CL OA LL NY SV PS SQ PM UM RY QU PV NH RX IY PZ RB OW RF QX OI SH QY QO SB TN QA MM RH OX PK JX GN SR QL SX TH SJ TT UK TZ YA UJ SD TM TR HC VA UY XY UW UB WP SI UE VF UN TS TG XJ LD KZ KY TI YL QK TK UQ KV ZI KG LG PU Sb
 exact λa h0 s h1 i h2 h3 h4 h5=>⟨by simp,WG h2 h3 h4 h5⟩
theorem DAS(w:One):CQD w:=by
 rw[CZE]<;> delta BH BK DY EM EO CH AB CJ CE AY CG MY CW HD KA IG EB FX EC GY GX GR GG DV FO FU FP FS IV ED NR WW JM JF GA QB QT SS TP Az SO YT VT HB XW WS AH CK AX AI BC AV AF BI MK AQ BB AC CN BF AE AO BD DD AZ DC BG BR BE BS BJ UT CI GQ BL CY ER FL EV CF AG BX NU CU HO DN MW CX IC DR PC LU HH FG LV XU HN ZA DX HE ZM CR PD GT EX CV HT AU PX DO DI OB HU HW FI NN SP PL JI EE JU LM EG JW SU GK KT MH OJ KR QH JZ GM GH FA MP PW GO OL CL OA LL NY SV PS SQ PM UM RY QU PV NH RX IY PZ OW RF QX OI SH QY QO SB TN QA MM Gn RH OX PK JX GN SR QL SX TH SJ TT UK TZ YA UJ SD TM TR HC VA UY XY UW UB WP SI UE VF UN TS TG XJ LD KZ KY TI YL WM QK TK UQ KV ZI KG LG PU
 exact λa h0 s h1 i h2 h3 h4 h5=>⟨by simp,WG h2 h3 h4 h5⟩
theorem DBN(w:One):CSF w:=by
 rw[CXQ]<;> delta BH BK DY EM EO CH AB CJ CE AY CG MY CW HD KA IG EB FX EC GY GX GR GG DV FO FU FP FS IV ED NR WW JM JF GA QB QT SS TP Az SO YT VT HB XW WS AH CK AX AI BC AV AF BI MK AQ BB AC CN BF AE AO BD DD AZ DC BG BR BE BS BJ UT CI GQ BL CY ER FL EV CF AG BX NU CU HO DN MW CX IC DR PC LU HH FG LV XU HN ZA DX HE ZM CR PD GT EX CV HT AU PX DO DI OB HU HW FI NN SP PL JI EE JU LM EG JW SU GK KT MH OJ KR QH JZ GM GH FA MP PW GO OL CL OA LL NY SV PS SQ PM UM RY QU PV NH RX IY PZ OW RF QX OI SH QY QO SB TN QA MM Gn RH OX PK JX GN SR QL SX TH SJ TT UK TZ YA UJ SD TM TR HC VA UY XY UW UB WP SI UE VF UN TS TG XJ LD KZ KY TI YL QK TK UQ KV ZI KG LG PU
 exact λa h0 s h1 i h2 h3 h4 h5=>⟨by simp,WG h2 h3 h4 h5⟩
end Go.Bal
