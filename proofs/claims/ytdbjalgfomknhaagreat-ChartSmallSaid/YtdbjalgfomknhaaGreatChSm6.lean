/- ChartSmall: parts, long charts. -/
import Derived.Test.YtdbjalgfomknhaaGreatChSm1
import Derived.Test.YtdbjalgfomknhaaGreatChSm5
set_option linter.unusedVariables false
set_option linter.unusedSimpArgs false
namespace Go.Bal
open Go Go.Sym Go.Proofs
def CDL(w:One):Prop:=L_Cs 32
abbrev Qm:=@Exists CsZ
abbrev Cv:=CsZ.n
abbrev KU:=CsZ.c
abbrev Ai a b:=Fi (CsZ.i a) 10 b ((@List.Mem Nat) (Cv a) csNn)
abbrev Bo a b:=AE (KU a) b
abbrev Bu a b:=AC (KU a) b
abbrev Cc a:=OA a 10 csN
abbrev V4 a b:=CV (CsZ.i a) b
abbrev NG:=BI 10
abbrev Ws a b:=FS a (BG b)
attribute [go_sem] Qm Cv KU Ai Bo Bu Cc V4 NG Ws
theorem CLF(w:One):(CDL w)=(Dw (HX (λi=>BL AG (Lc NG EN (CQ i) (λj=>Yj j 10 csN j (Bz j 0 (Im j 1 2 (Xm j 20 (Ry j) 21 (Im (Ry j) 22 39 (Xm (Ry j) 40 (tT j) 41 42))))))) (ED i 10)) (λi=>FA i 10 (FV (FK i 10) (AH (CL i 10 (HU (BG i) 10)) (BAI BP (ER 1) (ER 10000000)) (Qm (λj=>And (AH (FL (Cv j) (Ws csN i)) AG (Qq NG EN (V4 j i) (AI (AB Cc) EN UD UA (BB EN LI AG EY AG EY EN UD (QP UA EN LI (DO (KU j) 3) KR (λk=>RN k (AX (KU j)) (KU j) (M8 0 10000000) (BS (KU j) k)) (OJ (KU j)) MM (AB (λk=>AU k (KU j) (XY (KU j) k (M8 0 10000000) k) (YA (Bu j k) (M8 0 10000000) k) (Bu j k) (AC (M8 0 10000000) (BG k)) (CU (Bo j k) (M8 0 10000000) (BG k)) (Bo j k) (AE (M8 0 10000000) (BG k))))))))) (Ai j i)))) (Qr (λj=>IP)))))):=by kernel_rfl
def CDO(w:One):Prop:=L_Cs 37
abbrev iA:=λ(f:CsZ->Prop)=>∀(x:CsZ),f x
abbrev JP:=CsZ.j
abbrev uM a b:=XF (KU a) (KU b)
abbrev xD a b:=VK (KU a) (KU b)
abbrev jS a:=csLg (Cv a)
abbrev H9 a:=csLg (JP a)
abbrev Hz a b:=V4 a (CsZ.i b)
abbrev Ip a b:=CV (Cv a) (Cv b)
abbrev cK a b c d:=eI (Ai a b) c d
abbrev jO a:=CG (Cv a)
attribute [go_sem] iA JP uM xD jS H9 Hz Ip cK jO
theorem CIK(w:One):(CDO w)=(AB (λi=>FA i 10 (iA (λj=>CJ (Ai j i) (AH (Qm (λk=>LQ (Ip k j) AG NG EN (Hz k j) (UT BP NG (AB Cc) EN UD UA LI (iW (Ms (AI LI (xD k j) (VH (KU k) (KU j)) (uM k j) (AB (λl=>AU l (KU k) (PT (KU k) l (KU j)) (CX (Bu k l) (KU j) l) (Bu k l) (Bu j l) (CU (Bo k l) (KU j) l) (Bo k l) (Bo j l))))))) (Ai k i))) (iA (λk=>ON (Ai k i) (Pw (jO k)) Hq (Qm (λl=>Be (Ip l k) AG NG (CF EN (Hz l k) (Fz (JP l)) NG Cc EN UD UA (BB EN LI AG (LP (JP l)) AG EY EN UD (JA UA EN LI (xD l k) (λm=>Hf m (KU l) (KU k)) (uM l k) (λm=>AU m (KU l) (PT (KU l) m (KU k)) (CX (Bu l m) (KU k) m) (Bu l m) (Bu k m) (CU (Bo l m) (KU k) m) (Bo l m) (Bo k m)) (LP (JP l)) (AB (λm=>CI m (JP l) (OS (H9 l) m) (Hd 3 0) (VV (H9 l) m) 0))))) (cK l i (JP l) (Cv l)) (Oz (JP l)))) (Qm (λl=>And (AI (Ip l k) AG NG EN (UT (Hz l k) NG (AB Cc) EN UD UA LI (Qo (CH (EB (jS l)) 0) AG EY (Ms (AI LI (xD l k) (VH (KU l) (KU k)) (uM l k) (AB (λm=>AU m (KU l) (PT (KU l) m (KU k)) (CX (Bu l m) (KU k) m) (Bu l m) (Bu k m) (CU (Bo l m) (KU k) m) (Bo l m) (Bo k m)))))))) (Ai l i))))) (iA (λk=>OO (cK k i (JP k) (Cv k)) (JP k) (Cv k) (Hi (JP k)) (Qm (λl=>FH (Ip l k) (Ow NG (CF EN (Hz l k) (BA (JP l) (JP k)) NG Cc EN UD UA (BB EN LI AG (PI (JP l) (JP k)) AG EY EN UD (JA UA EN LI (xD l k) (λm=>Hf m (KU l) (KU k)) (uM l k) (λm=>AU m (KU l) (PT (KU l) m (KU k)) (CX (Bu l m) (KU k) m) (Bu l m) (Bu k m) (CU (Bo l m) (KU k) m) (Bo l m) (Bo k m)) (PI (JP l) (JP k)) (AB (λm=>CI m (JP l) (OS (H9 l) m) (OZ m (JP k) (OS (H9 k) m) (Hd 3 (CG (JP k)))) (VV (H9 l) m) (OZ m (JP k) (VV (H9 k) m) (CG (JP k))))))))) (cK l i (JP l) (Cv l)) 50 (JP l) (JP k))) (Qm (λl=>BL (Ip l k) (QP AG NG EN (Hz l k) NG Cc EN UD (DI UA EN LI (CH (EB (jS l)) (JP k)) (KC (JP k)) (AB (λm=>Nx m (EB (jS l)) (OS (jS l) m) (H9 k) (BG m) (jS l) m (BG m))) AG (λm=>Gb m 0) (Ms (AI LI (xD l k) (VH (KU l) (KU k)) (uM l k) (AB (λm=>AU m (KU l) (PT (KU l) m (KU k)) (CX (Bu l m) (KU k) m) (Bu l m) (Bu k m) (CU (Bo l m) (KU k) m) (Bo l m) (Bo k m))))))) (Ai l i)))))))))):=by kernel_rfl
def CBF(w:One):Prop:=L_Cs 41
abbrev GI a:=Fl (Cv a)
abbrev AGG a b:=GK (GI a) b
abbrev AHD a b:=GH (GI a) b
abbrev AFW a b:=GO (GI a) b
abbrev AEY a b:=CY (GI a) b
abbrev AEQ a b:=GM (GI a) b
abbrev WN a b:=AE (GI a) b
abbrev WI a b:=AC (GI a) b
attribute [go_sem] GI AGG AHD AFW AEY AEQ WN WI
theorem CNM(w:One):(CBF w)=(AB (λi=>FA i 10 (oW (iA (λj=>PY (Ai j i) (UP (Cv j) 1) (Qm (λk=>BL (Ip k j) (QP AG NG EN (Hz k j) NG Cc (AEQ k csZ) (AEY k csZ) (QL (AFW k csZ) (AHD k csZ) (AGG k csZ) (DO (GI k) (EB (jS j))) (λl=>jI l (AX (GI k)) (BE (GI k) l) (jS j) l (BS (GI k) l) l) (OJ (GI k)) MM (λl=>Vr l (GI k) (XO (BR (GI k) l) (RB l (VJ (Cv j)) 0) (Nf (WI k l) l 5000 0) (WI k l) (RB l 5100 9) (Nf (WN k l) l (-3000000) 0) (WN k l) (RB l 3000000 1000))) (Ms (AI LI (xD k j) (VH (KU k) (KU j)) (uM k j) (AB (λl=>AU l (KU k) (PT (KU k) l (KU j)) (CX (Bu k l) (KU j) l) (Bu k l) (Bu j l) (CU (Bo k l) (KU j) l) (Bo k l) (Bo j l))))))) (Ai k i))) (Qm (λk=>And (AI (Ip k j) AG NG EN (CR (Hz k j) NG Cc (AEQ k csZ) (AEY k csZ) (AFW k csZ) (AHD k csZ) (AGG k csZ) (Sz (DO (GI k) (EB (jS j))) (AB (λl=>jI l (AX (GI k)) (BE (GI k) l) (jS j) l (BS (GI k) l) l)) (HE (GI k) 0) (Ms (AI LI (xD k j) (VH (KU k) (KU j)) (uM k j) (AB (λl=>AU l (KU k) (PT (KU k) l (KU j)) (CX (Bu k l) (KU j) l) (Bu k l) (Bu j l) (CU (Bo k l) (KU j) l) (Bo k l) (Bo j l)))))))) (Ai k i)))))))):=by kernel_rfl
def CBC(w:One):Prop:=L_Cs 43
abbrev T6 a b:=(@min Nat instMinNat) (Cv a) b
abbrev G9 a:=T6 a 40
abbrev Rh a:=csTm (G9 a)
abbrev L6 a:=csTm (JP a)
abbrev Qw a:=EB (Rh a)
abbrev cI a b c d:=CU (WN a b) (GI c) d
abbrev gI a b c d:=CX (WI a b) (GI c) d
abbrev dQ a b c:=PT (GI a) b (GI c)
abbrev dH a b:=XF (GI a) (GI b)
abbrev dI a b:=VK (GI a) (GI b)
abbrev eT a b:=AGG a (GI b)
abbrev eJ a b:=AHD a (GI b)
abbrev fA a b:=AFW a (GI b)
abbrev fC a b:=AEY a (GI b)
abbrev eR a b:=AEQ a (GI b)
abbrev RV a:=P7 (G9 a)
abbrev wI a b:=VH (GI a) (GI b)
attribute [go_sem] T6 G9 Rh L6 Qw cI gI dQ dH dI eT eJ fA fC eR RV wI
theorem CNC(w:One):(CBC w)=(AB (λi=>FA i 10 (oW (iA (λj=>CJ (Ai j i) (AH (Qm (λk=>HV (Ip k j) AG NG (KQ EN (Hz k j) AG EY BP NG Cc (eR k j) (DI (fC k j) (fA k j) (eJ k j) (eT k j) (dI k j) (wI k j) (dH k j) (λl=>AU l (GI k) (dQ k l j) (gI k l j l) (WI k l) (WI j l) (cI k l j l) (WN k l) (WN j l)) (Ms (BAZ LI AG EY)))) (Ai k i))) (iA (λk=>PY (Ai k i) (Pw (iC (jO k) 40)) (AH Hq (PF kB Xs Hh He 8) (Qm (λl=>Be (Ip l k) AG NG (KQ EN (Hz l k) AG (LP (JP l)) (Fz (JP l)) NG Cc (eR l k) (DI (fC l k) (fA l k) (eJ l k) (eT l k) (dI l k) (wI l k) (dH l k) (λm=>AU m (GI l) (dQ l m k) (gI l m k m) (WI l m) (WI k m) (cI l m k m) (WN l m) (WN k m)) (Ms (Kc LI (LP (JP l)) (Mi EY (LP (JP l)) (AB (λm=>CI m (JP l) (OS (L6 l) m) 0 (VV (L6 l) m) 0)) (AB (λm=>Yj m (JP l) (P7 (JP l)) m 0))))))) (cK l i (JP l) (G9 l)) (Oz (JP l))))) (Qm (λl=>And (AH (Ip l k) AG (cA NG EN (Hz l k) (Bn (RV l)) NG (AB Cc) (eR l k) (DI (fC l k) (fA l k) (eJ l k) (eT l k) (dI l k) (wI l k) (dH l k) (λm=>AU m (GI l) (dQ l m k) (gI l m k m) (WI l m) (WI k m) (cI l m k m) (WN l m) (WN k m)) (Ms (Oh LI (CH (Qw l) 0) AG EY))))) (Ai l i))))) (iA (λk=>PY (cK k i (JP k) (G9 k)) (FK (JP k) (iC (jO k) 40)) (AH (Hi (JP k)) (PF (qY (BI (JP k)) (JP k)) Xs Cd (Ep (JP k)) (Es (JP k) 8)) (Qm (λl=>FH (Ip l k) (Ow NG (KQ EN (Hz l k) AG (PI (JP l) (JP k)) (BA (JP l) (JP k)) NG Cc (eR l k) (DI (fC l k) (fA l k) (eJ l k) (eT l k) (dI l k) (wI l k) (dH l k) (λm=>AU m (GI l) (dQ l m k) (gI l m k m) (WI l m) (WI k m) (cI l m k m) (WN l m) (WN k m)) (Ms (Kc LI (PI (JP l) (JP k)) (Mi EY (PI (JP l) (JP k)) (AB (λm=>CI m (JP l) (OS (L6 l) m) (OZ m (JP k) (OS (L6 k) m) (CG (JP k))) (VV (L6 l) m) (OZ m (JP k) (VV (L6 k) m) 0))) (AB (λm=>Yj m (JP l) (P7 (JP l)) m (OZ m (JP k) (FS (P7 (JP k)) m) (CG (JP k))))))))))) (cK l i (JP l) (G9 l)) 50 (JP l) (JP k)))) (Qm (λl=>And (AI (Ip l k) AG NG EN (QP (Hz l k) (EV (RV l) (JP k)) (KC (JP k)) (AB (λm=>ZM m (RV l) (RV l) m (P7 (JP k)) m)) NG Cc (eR l k) (fC l k) (JA (fA l k) (eJ l k) (eT l k) (dI l k) (λm=>Hf m (GI l) (GI k)) (dH l k) (λm=>AU m (GI l) (dQ l m k) (gI l m k m) (WI l m) (WI k m) (cI l m k m) (WN l m) (WN k m)) EN (KQ UD UA EN LI (CH (Qw l) (JP k)) (KC (JP k)) (λm=>Nx m (Qw l) (OS (Rh l) m) (L6 k) (BG m) (Rh l) m (BG m)) AG EY)))) (Ai l i))))))))))):=by kernel_rfl
def CAF(w:One):Prop:=L_Cs 50
abbrev tU:=CsZ.l
abbrev KD a:=GA (tU a)
abbrev T3 a:=U4 (KD a)
abbrev vY a b:=Ax (T3 a) b
abbrev JR a:=Nl (Cv a)
abbrev uF a b:=AE (JR a) b
abbrev wH a b:=Ay (T3 a) b
abbrev uP a b:=AC (JR a) b
attribute [go_sem] tU KD T3 vY JR uF wH uP
theorem CNJ(w:One):(CAF w)=(AB (λi=>FA i 10 (oW (iA (λj=>CJ (Ai j i) (AH (Qm (λk=>LQ (Ip k j) AG NG EN (Hz k j) (KQ (IZ (RV k) (RV j)) (Ux (RV k) (RV j)) AG EY BP NG Cc (eR k j) (DI (fC k j) (fA k j) (eJ k j) (eT k j) (dI k j) (wI k j) (dH k j) (λl=>AU l (GI k) (dQ k l j) (gI k l j l) (WI k l) (WI j l) (cI k l j l) (WN k l) (WN j l)) (Ms (Nq LI (CH (Qw k) (Qw j)) (λl=>Nx l (Qw k) (OS (Rh k) l) (Rh j) l (Rh k) l l) AG EY)))) (Ai k i))) (iA (λk=>PY (Ai k i) (Pw (iC (jO k) 22)) (DT qB (PF (Ll 5) (XI HN 1 5) Hh He 40) Hq (Qm (λl=>DT (Ip l k) (AI AG NG EN (Hz l k) (KQ (IZ (RV l) (RV k)) (Ux (RV l) (RV k)) AG (LP (KD l)) (Fz (KD l)) NG Cc (eR l k) (DI (fC l k) (fA l k) (eJ l k) (eT l k) (dI l k) (wI l k) (dH l k) (λm=>AU m (GI l) (dQ l m k) (gI l m k m) (WI l m) (WI k m) (cI l m k m) (WN l m) (WN k m)) (Ms (Nq LI (CH (Qw l) (Qw k)) (λm=>Nx m (Qw l) (OS (Rh l) m) (Rh k) m (Rh l) m m) AG (AWD (LP (KD l)) (AB (λm=>AV m (KD l) (AI (FG (PH (T3 l) m)) (BD (wH l m) (Hd 100 0)) (BC (wH l m) (EQ (Hd 100 0) (T5 0 2))) (UO (vY l m)) (BC (vY l m) 1000)))) (AB (λm=>aO m (KD l) (tU l) m (Md 0 (ZN 0)) 0)))))))) (cK l i (KD l) (T6 l 22)) (Oz (KD l))))) (Qm (λl=>And (KQ (Ip l k) AG NG EN (Hz l k) (IZ (RV l) (RV k)) (λm=>KO m (RV l) (RV k)) (CH (KD l) 0) (CR (CH (KD l) 0) NG Cc (eR l k) (fC l k) (fA l k) (eJ l k) (eT l k) (IA (dI l k) (λm=>Hf m (GI l) (GI k)) (dH l k) (AB (λm=>AU m (GI l) (dQ l m k) (gI l m k m) (WI l m) (WI k m) (cI l m k m) (WN l m) (WN k m))) (GM (JR l) csZ) (CY (JR l) csZ) (GO (JR l) csZ) (GH (JR l) csZ) (lW (GK (JR l) csZ) (DO (JR l) (Qw k)) (AB (λm=>jI m (AX (JR l)) (BE (JR l) m) (Rh k) m (BS (JR l) m) m)) (HE (JR l) 0))))) (Ai l i))))) (iA (λk=>PY (cK k i (KD k) (T6 k 22)) (FK (KD k) (iC (jO k) 22)) (DT qB (PF (XI (BI (KD k)) (KD k) 5) (XI HN 1 5) Cd (Ep (KD k)) (Es (KD k) 40)) (Hi (KD k)) (Qm (λl=>FH (Ip l k) (AI AG NG EN (Hz l k) (KQ (IZ (RV l) (RV k)) (Ux (RV l) (RV k)) AG (PI (KD l) (KD k)) (BA (KD l) (KD k)) NG Cc (eR l k) (DI (fC l k) (fA l k) (eJ l k) (eT l k) (dI l k) (wI l k) (dH l k) (λm=>AU m (GI l) (dQ l m k) (gI l m k m) (WI l m) (WI k m) (cI l m k m) (WN l m) (WN k m)) (Ms (Nq LI (CH (Qw l) (Qw k)) (λm=>Nx m (Qw l) (OS (Rh l) m) (Rh k) m (Rh l) m m) AG (AWD (PI (KD l) (KD k)) (AB (λm=>AV m (KD l) (XO (PH (T3 l) m) (OZ m (KD k) (PH (T3 k) m) (CG (KD k))) (BD (wH l m) (Sf m (KD k) (wH k m) (Hd 100 (CG (KD k))))) (wH l m) (Rq m (KD k) (wH k m) (EQ (Hd 100 (CG (KD k))) (T5 (CG (KD k)) 2))) (BD (vY l m) (Sf m (KD k) (vY k m) 0)) (vY l m) (Rq m (KD k) (vY k m) 1000)))) (AB (λm=>aO m (KD l) (tU l) m (OZ m (KD k) (LV (tU k) m) (Md 0 (VJ (KD k)))) (OZ m (KD k) (LU (tU k) m) (CG (KD k))))))))))) (cK l i (KD l) (T6 l 22)) 50 (KD l) (KD k)))) (Qm (λl=>And (CS (Ip l k) AG NG EN (Hz l k) (IZ (RV l) (RV k)) (QP (Ux (RV l) (RV k)) (CH (KD l) (KD k)) (KC (KD k)) (AB (λm=>aO m (KD l) (tU l) m (LV (tU k) (BG m)) (LU (tU k) (BG m)))) NG Cc (eR l k) (fC l k) (JA (fA l k) (eJ l k) (eT l k) (dI l k) (λm=>Hf m (GI l) (GI k)) (dH l k) (λm=>AU m (GI l) (dQ l m k) (gI l m k m) (WI l m) (WI k m) (cI l m k m) (WN l m) (WN k m)) (GM (JR l) csZ) (QP (CY (JR l) csZ) (GO (JR l) csZ) (GH (JR l) csZ) (GK (JR l) csZ) (DO (JR l) (Qw k)) (λm=>jI m (AX (JR l)) (BE (JR l) m) (Rh k) m (BS (JR l) m) m) (HE (JR l) (KD k)) (KC (KD k)) (AB (λm=>AU m (JR l) (AY (BR (JR l) m) (PH (T3 k) (BG m))) (AZ (uP l m) (wH k (BG m))) (uP l m) (wH k (BG m)) (AZ (uF l m) (vY k (BG m))) (uF l m) (vY k (BG m)))))))) (Ai l i))))))))))):=by kernel_rfl
theorem CYU(w:One):CDL w:=by
 rw[CLF]<;> delta MD Iv BH BK DY EM EO CH AB CJ CE AY CG MY CW FV NL HD KA IG EB FX GG DV FO FU KI IP FS IV ED NR WW Qr Qj Ho Qm Cv KU AH CK AX AI BC AV AF BI GJ MK Qq AQ BB AC CN BF AEF AE AO BD DD AZ DC BG BR BE BS BJ CI BL ER FL AG BX TV NU CU M8 HO DN MW CX DU DR PC Ry tT Bz DX HE GT EX BP CV HT AU DO WX J2 HU HW FI FK EN Gb MH OJ KR FA Td CQ CL OA Fi EY FY JK BAI HX NG LI MM AUA UA TL UD QP RN YA Bo XY Ai Bu V4 Qv Im Cc Dw Lc Xm Yj Ws;simp only[CC,eq_self,implies_true,forall_const]
 refine⟨⟨0,⟨rfl,λi hi=>?_⟩,by omega⟩,λa ha=>⟨λh=>⟨⟨⟨by omega,h⟩,by omega⟩,⟨a,(gD csN a).toNat,0,oneM ⟨0,10000000⟩,[]⟩,⟨(BSL (by omega)).2,rfl,rfl,by decide,λ_ _=>⟨rfl,rfl⟩,rfl,by decide,λ_ _=>⟨rfl,rfl,rfl,rfl,rfl⟩⟩,by show a<10;omega,rfl,(BSL (by omega)).1⟩,λ_=>⟨default,trivial⟩⟩⟩
 revert hi;revert i;decide +kernel
theorem CYO(w:One):CDO w:=by
 rw[CIK]<;> delta MD Iv BH BK DY RD RU EM EO CH AB CJ CE AY CG MY CW FV NL UI IG EB FX GG DV FO FU IP FS LW IV ED NR Qu Lg bX Qm Cv KU iA JP AH CK AX AI BC AV AF BI GJ MK Jc Wb Qq Qo AQ BB AC CN BF AE AO BD DD AZ DC BG BR BE BS BJ JQ UT CI EQ BL ER FL CF AG HR TV CU KJ MW CX DU HY DR PC EA DT FE FW HN VV MJ JA IT HE OS EZ GT JJ BA BP NF CV HT AU DI JH FI FK IU EN Gb MH XI VD FA SN Td OA PT Fi EY JY PO FH OZ VU Bb KC ON Hd PF NG LI VK XF UA UD LP QP Fx PI Mw YM Bo Ai Bu Ik LQ Es Hf Cd VH OO Hh He V4 Ep Hz Ll eO Ip Cc Ln Zy eI jS Fz jI Be Ms Hi Pw Oz Hq jO Ow H9 Nx cK uM xD V2 iW;simp only[CC,eq_self,implies_true,forall_const]
 refine λa ha s ⟨s1,s2,s3⟩=>⟨⟨s,⟨rfl,rfl,rfl,λ_ _=>⟨rfl,rfl⟩,rfl,λ_ _=>⟨rfl,rfl,rfl,rfl,rfl⟩⟩,s1,s2,s3⟩,λs ⟨s1,s2,s3⟩=>⟨λh=>⟨by decide,⟨s.i,s.n,1,s.c,s.l⟩,⟨rfl,rfl,rfl,rfl,rfl,λ_ _=>⟨rfl,rfl⟩,rfl,λ_ _=>⟨rfl,rfl,rfl,rfl,rfl⟩,rfl,λi hi=>?_⟩,⟨⟨s1,s2,s3⟩,Nat.one_pos,by show 1<=s.n;omega⟩,by show 50-1<60;omega⟩,λh=>⟨s,⟨rfl,rfl,?_,?_,rfl,λ_ _=>⟨rfl,rfl⟩,rfl,λ_ _=>⟨rfl,rfl,rfl,rfl,rfl⟩⟩,s1,s2,s3⟩⟩,λs ⟨⟨s1,s2,s3⟩,s4,s5⟩=>⟨λh=>?_,λh=>?_⟩⟩
 ·have hi:i<1:=hi
  obtain rfl:i=0:=by omega
  exact⟨rfl,rfl⟩
 ·rw[AJS];omega
 ·rw[AJS];omega
 ·have n42:=ALA s3
  exact⟨⟨by omega,(λh=>by cases h),by omega,by omega⟩,⟨s.i,s.n,s.j+1,s.c,s.l⟩,⟨rfl,rfl,(II (by omega)).symm,rfl,rfl,λ_ _=>⟨rfl,rfl⟩,rfl,λ_ _=>⟨rfl,rfl,rfl,rfl,rfl⟩,rfl,λi hi=>BWX (by omega) hi⟩,⟨⟨s1,s2,s3⟩,Nat.succ_pos _,by show s.j+1<=s.n;omega⟩,by show 50-(s.j+1)<50-s.j;omega⟩
 ·have e:s.j=s.n:=by omega
  exact⟨s,⟨rfl,rfl,by rw[AJS,e],Nat.le_refl _,λ_ _=>by rw[e];exact⟨rfl,rfl⟩,rfl,λ_ _=>⟨rfl,rfl⟩,rfl,λ_ _=>⟨rfl,rfl,rfl,rfl,rfl⟩⟩,s1,s2,s3⟩
theorem CVU(w:One):CBF w:=by
 rw[CNM]<;> delta BH BK DY RD RU Mr EM EO CH AB CJ CE AY CG MY CW FV IG EB FX EC GY GX GR GG DV FO FU FS WB IV ED NR WW Qm Cv KU iA AH CK AX AI BC AV AF oW BI MK Sz Qq AQ BB AC CN BF AE AO BD DD AZ DC BG BR BE BS BJ JQ GI CI BL CY ER FL CF AG NU CU MW CX LH DU HY DR PC FW Bz VV ZN HE OS CR GT CV HT AU DO FI EN JU JW GK MH OJ JZ GM GH FA Td VJ GO OA PT Fi UP WN WI RB NG LI PY VK MM XF UA UD QP QL Mw Bo Ai Bu Hf VH V4 Hz Dy Ip Cc AFW jS AHD AEQ jI AGG AEY Nf Vr XO Ms uM xD;simp only[CC,eq_self,implies_true,forall_const]
 refine λa ha s ⟨s1,s2,s3⟩=>⟨λh=>?_,λh=>?_⟩
 ·have n42:=ALA s3
  have e:(Fl s.n).ns=[⟨IntKind.i64.wrap ((s.n:Int)-1),⟨5000,5100⟩,⟨-3000000,3000000⟩⟩,⟨0,⟨0,9⟩,⟨0,1000⟩⟩]:=CMT (by omega) (by omega)
  refine⟨s,⟨rfl,rfl,rfl,rfl,rfl,rfl,rfl,rfl,λ_ _=>⟨rfl,rfl⟩,by rw[e];rfl,by decide,λj hj=>?_,rfl,λ_ _=>⟨rfl,rfl⟩,rfl,λ_ _=>⟨rfl,rfl,rfl,rfl,rfl⟩⟩,s1,s2,s3⟩
  rw[e] at hj ⊢
  match j,hj with
  |0,_=>exact⟨rfl,rfl,rfl,rfl,rfl⟩
  |1,_=>exact⟨rfl,rfl,rfl,rfl,rfl⟩
 ·have e:(Fl s.n).ns=[]:=CON (by omega)
  exact⟨s,⟨rfl,rfl,rfl,rfl,rfl,rfl,rfl,rfl,λ_ _=>⟨rfl,rfl⟩,by rw[e];rfl,by rw[e];rfl,rfl,λ_ _=>⟨rfl,rfl⟩,rfl,λ_ _=>⟨rfl,rfl,rfl,rfl,rfl⟩⟩,s1,s2,s3⟩
theorem CVR(w:One):CBC w:=by
 rw[CNC]<;> delta MD Iv BH BK DY RD RU EM EO CH AB CJ CE AY CG MY CW FV NL UI iC IG EB FX EC GY GX GR GG DV FO FU IP FP FS LW IV ED NR Lg bX Qm Cv iA JP AH CK AX AI BC AV AF oW BI GJ MK Qq Oh Mi BAZ AQ BB AC CN BF AE AO BD DD AZ DC BG BR BE BS BJ JQ GI cA CI EQ GQ BL CY ER FL EV CF AG HR TV CU KJ HO MW CX DU HY IC DR PC EA DT KQ HH FE FW HN VV MJ JA IT HE ZM OS GT JJ BA BP NF CV HT AU DI T6 JH FI FK IU EN JU JW GK G9 Gb MH XI VD JZ GM GH FA SN Td GO OA PT Fi EY PO FH OZ VU Bb KC RV WN PF HV WI Rh NG LI PY VK XF UA UD LP QP Fx PI Mw YM Ai Ik Es Hf Cd VH Hh He V4 Ep Bn Hz Ll eO Ip Cc Qw Ln Zy qY eI AFW AHD AEQ Fz jI AGG AEY Kc fC Be Ms Hi Xs eT eR Pw eJ fA Oz Hq L6 jO Ow dH dI Nx Yj cK dQ cI gI kB wI;simp only[CC,eq_self,implies_true,forall_const]
 have mn:∀n:Nat,QC (n:Int) 40=((min n 40:Nat):Int):=λn=>BKA n 40
 simp only[mn]
 refine λa ha s ⟨s1,s2,s3⟩=>⟨⟨s,⟨rfl,rfl,rfl,rfl,rfl,rfl,rfl,rfl,λ_ _=>⟨rfl,rfl⟩,rfl,λ_ _=>⟨rfl,rfl,rfl,rfl,rfl⟩⟩,s1,s2,s3⟩,λs ⟨s1,s2,s3⟩=>⟨λh=>⟨by decide,by decide,⟨s.i,s.n,1,s.c,s.l⟩,⟨rfl,rfl,rfl,rfl,rfl,rfl,rfl,rfl,rfl,rfl,λ_ _=>⟨rfl,rfl⟩,rfl,λ_ _=>⟨rfl,rfl,rfl,rfl,rfl⟩,rfl,rfl,λi hi=>?_,rfl,λi hi=>?_⟩,⟨⟨s1,s2,s3⟩,Nat.one_pos,by show 1<=min s.n 40;omega⟩,by show 50-1<60;omega⟩,λh=>⟨s,⟨rfl,rfl,?_,?_,rfl,rfl,rfl,rfl,rfl,rfl,λ_ _=>⟨rfl,rfl⟩,rfl,λ_ _=>⟨rfl,rfl,rfl,rfl,rfl⟩,?_⟩,s1,s2,s3⟩⟩,λs ⟨⟨s1,s2,s3⟩,s4,s5⟩=>⟨λh=>?_,λh=>?_⟩⟩
 ·have hi:i<1:=hi
  obtain rfl:i=0:=by omega
  exact⟨rfl,rfl⟩
 ·have hi:i<1:=hi
  obtain rfl:i=0:=by omega
  rfl
 ·rw[AHX];omega
 ·rw[AHX];omega
 ·rw[AYM];omega
 ·have n42:=ALA s3
  exact⟨⟨by omega,(λh=>by cases h),by omega,by omega⟩,⟨by omega,(λh=>by cases h),by omega,by omega⟩,⟨s.i,s.n,s.j+1,s.c,s.l⟩,⟨rfl,rfl,rfl,(II (by omega)).symm,rfl,rfl,rfl,rfl,rfl,rfl,λ_ _=>⟨rfl,rfl⟩,rfl,λ_ _=>⟨rfl,rfl,rfl,rfl,rfl⟩,rfl,rfl,λi hi=>BWV hi,rfl,λi hi=>BXF hi⟩,⟨⟨s1,s2,s3⟩,Nat.succ_pos _,by show s.j+1<=min s.n 40;omega⟩,by show 50-(s.j+1)<50-s.j;omega⟩
 ·have e:s.j=min s.n 40:=by omega
  exact⟨s,⟨rfl,rfl,by rw[AHX,e],Nat.le_refl _,λ_ _=>by rw[e],rfl,rfl,rfl,rfl,rfl,rfl,λ_ _=>⟨rfl,rfl⟩,rfl,λ_ _=>⟨rfl,rfl,rfl,rfl,rfl⟩,by rw[AYM,e],Nat.le_refl _,λ_ _=>by rw[e];exact⟨rfl,rfl⟩⟩,s1,s2,s3⟩
theorem CUM(w:One):CAF w:=by
 rw[CNJ]<;> delta MD Iv BH BK DY RD RU Mr EM EO CH AB CJ CE AY CG MY CW FV NL UI Md iC IG EB FX EC GY GX GR GG DV FO FU IP FP FS LW IV ED NR Rn Qu Lg bX JM JF GA QB T5 Qm Cv iA tU AH CK AX AI BC AV AF oW BI GJ MK Qq AWD lW AQ BB AC CN BF AE AO BD DD AZ DC BG BR BE BS BJ JQ GI CI EQ GQ BL CY ER FL EV CF AG HR TV CU KJ HO MW CX LH DU HY IC DR PC EA DT JR LU KQ HH FE FG FW LV IZ Ax HN VV MJ JA ZN IT HE Ay OS CR GT JJ BA BP NF CV HT AU DO DI CS T6 KD PH JH FI LJ KO FK IU EN JU LM JW GK G9 Gb MH XI VD JZ GM GH FA SN Td VJ GO aO OA PT Fi EY PO FH OZ VU Bb KC IA RV Hd WN PF WI Rh NG LI PY VK XF NQ UA UD LP QP Fx PI Mw YM Ai Ik LQ Es T3 Hf Cd UO VH Hh He V4 Ep Hz Ll Dy eO Ip Cc Qw Ln Zy eI AFW AHD AEQ Fz jI AGG AEY XO fC Ms Hi eT Ux eR Pw eJ Nq fA Oz Rq wH Hq Sf vY jO dH dI Nx cK dQ uF cI uP gI qB wI;simp only[CC,eq_self,implies_true,forall_const]
 have mn:∀n:Nat,QC (n:Int) 22=((min n 22:Nat):Int):=λn=>BKA n 22
 simp only[mn]
 refine λa ha s ⟨s1,s2,s3⟩=>⟨⟨s,⟨rfl,rfl,rfl,λ_ _=>rfl,rfl,rfl,rfl,rfl,rfl,rfl,λ_ _=>⟨rfl,rfl⟩,rfl,λ_ _=>⟨rfl,rfl,rfl,rfl,rfl⟩,rfl,λ_ _=>⟨rfl,rfl⟩⟩,s1,s2,s3⟩,λs ⟨s1,s2,s3⟩=>⟨λh=>⟨by decide,by decide,⟨s.i,s.n,1,s.c,[⟨0,0⟩]⟩,⟨rfl,rfl,rfl,λ_ _=>rfl,rfl,rfl,rfl,rfl,rfl,rfl,rfl,rfl,λ_ _=>⟨rfl,rfl⟩,rfl,λ_ _=>⟨rfl,rfl,rfl,rfl,rfl⟩,rfl,λ_ _=>⟨rfl,rfl⟩,rfl,rfl,λi hi=>?_,rfl,λi hi=>?_⟩,⟨⟨s1,s2,s3⟩,Nat.one_pos,by show 1<=min s.n 22;omega⟩,by show 50-1<60;omega⟩,λh=>⟨⟨s.i,s.n,s.j,s.c,[]⟩,⟨rfl,rfl,rfl,λ_ _=>rfl,rfl,rfl,rfl,rfl,rfl,rfl,rfl,rfl,λ_ _=>⟨rfl,rfl⟩,rfl,λ_ _=>⟨rfl,rfl,rfl,rfl,rfl⟩,rfl,rfl,rfl,rfl,rfl,rfl,λ_ _=>⟨rfl,rfl⟩,?_⟩,s1,s2,s3⟩⟩,λs ⟨⟨s1,s2,s3⟩,s4,s5⟩=>⟨λh=>?_,λh=>?_⟩⟩
 ·have hi:i<1:=hi
  obtain rfl:i=0:=by omega
  exact⟨rfl,rfl,rfl,rfl,rfl⟩
 ·have hi:i<1:=hi
  obtain rfl:i=0:=by omega
  exact⟨rfl,rfl⟩
 ·show (U4 (min s.n 22)).length=0
  rw[AZQ];omega
 ·have n42:=ALA s3
  obtain⟨l,l1,l2⟩:=CBJ (s.l.length+1) (λi=>bif decide (i<s.l.length) then (gD s.l i).a else HJ 0 (IntKind.i64.wrap ((s.l.length:Int)-1))) λi=>bif decide (i<s.l.length) then (gD s.l i).b else (s.l.length:Int)
  exact⟨⟨by decide,by omega,(λh=>by cases h),by omega,by omega⟩,⟨by omega,(λh=>by cases h),by omega,by omega⟩,⟨s.i,s.n,s.j,s.c,l⟩,⟨rfl,rfl,rfl,λ_ _=>rfl,l1,by show (l.length:Int)=_;rw[l1];exact (II (by omega)).symm,rfl,rfl,rfl,rfl,rfl,rfl,λ_ _=>⟨rfl,rfl⟩,rfl,λ_ _=>⟨rfl,rfl,rfl,rfl,rfl⟩,rfl,λ_ _=>⟨rfl,rfl⟩,l1,l1,λi hi=>by rw[l1] at hi ⊢;exact BXA (by omega) hi,l1,l2⟩,⟨⟨s1,s2,s3⟩,by show 0<l.length;omega,by show l.length<=min s.n 22;omega⟩,by show 50-l.length<50-s.l.length;omega⟩
 ·have e:s.l.length=min s.n 22:=by omega
  exact⟨s,⟨rfl,rfl,rfl,λ_ _=>rfl,rfl,Nat.le_refl _,λ_ _=>⟨rfl,rfl⟩,rfl,rfl,rfl,rfl,rfl,rfl,λ_ _=>⟨rfl,rfl⟩,rfl,λ_ _=>⟨rfl,rfl,rfl,rfl,rfl⟩,rfl,rfl,rfl,rfl,rfl,rfl,λ_ _=>⟨rfl,rfl⟩,by show (U4 (min s.n 22)).length=_;rw[AZQ,e],Nat.le_refl _,λ_ _=>by rw[e];exact⟨rfl,rfl,rfl,rfl,rfl⟩⟩,s1,s2,s3⟩
end Go.Bal
