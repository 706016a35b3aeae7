/- ChartSmall: parts, small charts. -/
import Derived.Test.YtdbjalgfomknhaaGreatChSm1
set_option linter.unusedVariables false
set_option linter.unusedSimpArgs false
namespace Go.Bal
open Go Go.Sym Go.Proofs
def CGG(w:One):Prop:=L_Cs 12
abbrev YT:=CsR.i
abbrev VT:=CsR.n
abbrev HB:=CsR.c
abbrev XW:=CsR.z
abbrev WS:=CsR.l
abbrev GN a(b:CsI->Prop):=FA a 42 (Az b)
abbrev bI a b:=FK (VT a) b
abbrev EE a b:=AE (HB a) b
abbrev EG a b:=AC (HB a) b
abbrev PV a:=JF (CsR.p a)
abbrev PZ a:=JM (CsR.p a)
abbrev PX a:=Tru.z (CsR.u a)
abbrev ZA a:=Tru.s (CsR.u a)
abbrev PD a:=Tru.t (CsR.u a)
abbrev SD a b c d e:=NH (YT a) b (PL (YT a) c) (CE (VT a) 32) (RF 32 (VT d) e) (OJ (HB a))
attribute [go_sem] YT VT HB XW WS GN bI EE EG PV PZ PX ZA PD SD
theorem CNT(w:One):(CGG w)=(AB (λi=>GN i (λj=>CJ (PK j 42 i 32) ((λ(f:CsR->Prop)=>∀(x:CsR),f x) (λk=>CJ (SD k 42 i k j) (And (AH (IT (bI k 23) (TY (HB k) (λl=>AT l (HB k) (AM (HB k) l) (AN (HB k) l) (AS (HB k) l) (EG k l) (AL (HB k) l) (AR (HB k) l) (EE k l)) (HL (XW k)) (JA (QW (XW k)) (AF (CsR.m k)) (AF (CsR.t k)) (HL (PD k)) (λl=>QE l (PD k)) (HL (ZA k)) (λl=>QE l (ZA k)) (HL (PX k)) (QW (PX k))))) (IT (and (not (Ug (bI k 23) LW)) (KE (bI k 15) (IB (UP (VT k) 22) (bI k 28)))) (Ga (HB k) (Jt (HB k) (λl=>AT l (HB k) (AM (HB k) l) (AN (HB k) l) (AS (HB k) l) (EG k l) (AL (HB k) l) (AR (HB k) l) (EE k l)) (AY (JM (kJ (PZ k) (PV k))) (PZ k)) (AY (JF (kJ (PZ k) (PV k))) (PV k)) (AF (CsR.y k)) (RZ (Wj (WS k)) (WS k)) (XM (Wj (WS k)) (WS k)) (CJ (DZ (fG (HB k))) (dF (HB k)))))) (IT (and (not (KE (Ug (bI k 23) LW) (Ug (KE (bI k 15) (IB (UP (VT k) 22) (bI k 28))) LW))) (KE (bI k 18) (UP (VT k) 27))) (Ga (HB k) (IY (DK (HB k)) (BO (HB k)) (λl=>AT l (HB k) (AM (HB k) l) (AN (HB k) l) (AS (HB k) l) (EG k l) (AL (HB k) l) (AR (HB k) l) (EE k l)) (HL (XW k)) (λl=>QE l (XW k)) (AF (CsR.t k)) (AF (CsR.f k)) (AF (CsR.o k)) (AF (CsR.s k)))))) (qP (KE (Ug (bI k 23) LW) (Ug (KE (bI k 15) (IB (UP (VT k) 22) (bI k 28))) LW)) (Ug (KE (bI k 18) (UP (VT k) 27)) LW) (BFI (λl=>FH (NN csV (SS l) (YT k)) (AH (BA (TP l) (VT k)) AG (Lc KT OI (CV (SS l) (YT k)) OX)) (PK l 42 i 32) 32 (TP l) (TP j)))))))))):=by kernel_rfl
def CHZ(w:One):Prop:=L_Cs 15
abbrev AVO:=@Exists CsX
abbrev Hs:=CsX.n
abbrev DG:=CsX.c
abbrev T5:=Int.tmod
abbrev AVS:=λ(f:CsX->Prop)=>∀(x:CsX),f x
abbrev Ly a:=AX (DG a)
abbrev AMZ a b c:=T5 (JQ (Int.tdiv a b)) c
abbrev Xe a b c:=AMZ (CG (Hs a)) b c
abbrev aA a b:=Xe a b 7
abbrev K2 a:=MZ (DG a)
abbrev AGI a b:=CJ (Si (MY a)) b
abbrev AFM a:=AGI a VS
abbrev qB:=NQ 2
attribute [go_sem] AVO Hs DG T5 AVS Ly AMZ Xe aA K2 AGI AFM qB
theorem CJC(w:One):(CHZ w)=(Dw (HX (λi=>Kk (CQ i) i 3000) (λi=>FA i 3000 (FV (FK i 3000) (BL qB (YX qB (AFM 3)) (AH (AVO (λj=>AH (CS (CV (Hs j) i) BP (BD (EC (DG j)) (EQ 1 (T5 (CG i) 2))) (BC (EC (DG j)) (EQ 2 (AMZ (CG i) 2 2))) (FG (GY (DG j))) (OB (GX (DG j))) (BAZ (JU (DG j) (T5 (CG i) 3)) AG EY)) (CE (Hs j) 3000) (FI 3000 (Hs j) i))) (AVS (λj=>CJ (And (CE (Hs j) 3000) (FI 3000 (Hs j) i)) (And (CS (NQ (EQ 1 0)) (NQ 7) Ln (Bb HN 1) Hh He (CW 16 140737488355328)) (AVO (λk=>AH (BB (CV (Hs k) (Hs j)) (Fz (Ly k)) (GM (DG k) (DG j)) (CY (DG k) (DG j)) (GO (DG k) (DG j)) (GH (DG k) (DG j)) (GK (DG k) (DG j)) AG (Lc (DO (DG k) 1) AG EY (λl=>CI l (Ly k) (BE (DG k) l) (EQ (Hd 0 0) 0) (BS (DG k) l) (aA j (EQ 1 0))))) (FY (CE (Hs k) 3000) (FI 3000 (Hs k) i) (NF (Ly k)) (CW (Ly k) 4)) (MJ 4 (Ly k) 9)))))) (AVS (λj=>ON (FY (CE (Hs j) 3000) (FI 3000 (Hs j) i) (NF (Ly j)) (CW (Ly j) 4)) (NL (K2 j) 4) (CS (NQ (EQ 1 (K2 j))) (NQ 7) (Bb (GD (DG j)) (Ly j)) (Bb HN 1) Cd (CW (Ce (DG j)) 9223372036854775807) (CW (Lg (Ce (DG j)) 16) 140737488355328)) (AVO (λk=>IF (BB (CV (Hs k) (Hs j)) (Zy (Ly k) (K2 j)) (GM (DG k) (DG j)) (CY (DG k) (DG j)) (GO (DG k) (DG j)) (GH (DG k) (DG j)) (GK (DG k) (DG j)) AG (Lc (DO (DG k) (Ce (DG j))) AG EY (λl=>CI l (Ly k) (BE (DG k) l) (OZ l (Ly j) (BE (DG j) l) (EQ (Hd (K2 j) (K2 j)) (K2 j))) (BS (DG k) l) (OZ l (Ly j) (BS (DG j) l) (aA j (EQ 1 (K2 j))))))) (FY (CE (Hs k) 3000) (FI 3000 (Hs k) i) (NF (Ly k)) (CW (Ly k) 4)) 4 (Ly k) (Ly j))) (AVO (λk=>Ng (CV (Hs k) (Hs j)) (GM (DG k) (DG j)) (KQ (CY (DG k) (DG j)) (GO (DG k) (DG j)) (GH (DG k) (DG j)) (GK (DG k) (DG j)) (VK (DG k) (DG j)) (KC (Ly j)) (λl=>RN l (Ly k) (DG k) (DG j) (BS (DG k) l)) AG EY) (CE (Hs k) 3000) (FI 3000 (Hs k) i))))))) (Qr (λj=>IP)))))):=by kernel_rfl
def BZM(w:One):Prop:=L_Cs 23
abbrev AJG(a:CsX):Prop:=a.n<(3000:Nat)
abbrev AJQ(a:CsX)(a1:Nat):Prop:=(3000:Nat)-a.n=(3000:Nat)-a1
abbrev AJK(a:CsX)(a1:Nat):Prop:=AJG a/\AJQ a a1
abbrev Y9(a:CsX)(a1:CsX):Prop:=(↑a.n:Int)=(↑a1.n:Int)
abbrev P0(a:CsX)(a1:CsX):Prop:=a.c.p.lo=a1.c.p.lo
abbrev X2(a:CsX)(a1:CsX):Prop:=a.c.p.hi=a1.c.p.hi
abbrev R0(a:CsX)(a1:CsX):Prop:=a.c.ms.length=a1.c.ms.length
abbrev O8(a:CsX)(a1:CsX):Prop:=∀(i:Nat),i<a.c.ms.length->(gD a.c.ms i).pl=(gD a1.c.ms i).pl/\(gD a.c.ms i).ht=(gD a1.c.ms i).ht
abbrev AKF:Prop:=(0:Nat)=(0:Nat)
abbrev AXX:Int:=IntKind.i64.wrap (IntKind.i64.wrap ((0:Int)*(4:Int))+(1:Int))
abbrev AUE:Prop:=Int.ofNat (9:Nat)=Int.ofNat (0:Nat)->False
abbrev zA:Prop:=(5:Int)≠(0:Int)
abbrev zJ:Prop:=(2:Int)≠(0:Int)
abbrev APU:Prop:=(4:Int)≠(0:Int)
abbrev zM:Prop:=(3:Int)≠(0:Int)
abbrev AMM:Prop:=(7:Int)≠(0:Int)
abbrev ABQ:Prop:=(0:Nat)<(1:Nat)
abbrev ASF:Prop:=(5:Nat)=(5:Nat)
abbrev ANP:Prop:=(1:Nat)<=(1:Nat)/\(ABQ->ASF)
abbrev APT:Int:=IntKind.i64.wrap ((0:Int)+(1:Int))
abbrev APM(a:CsX):Prop:=a.c.ns.length=(1:Nat)
abbrev ASG:Nat:=(0:Nat)+Int.toNat (0:Int)
abbrev AQC(a:CsX):Int:=IntKind.i64.wrap ((1:Int)+(IntKind.i64.wrap ((↑a.n:Int).tdiv (5:Int))).tmod (2:Int))
abbrev ARA(a:CsX):Int:=IntKind.i64.wrap ((IntKind.i64.wrap ((↑a.n:Int).tdiv AXX)).tmod (9:Int)*APT)
abbrev ARB(a:CsX):Int:=(IntKind.i64.wrap ((↑a.n:Int).tdiv (3:Int))).tmod (3:Int)
abbrev ARD(a:CsX):Int:=(IntKind.i64.wrap ((↑a.n:Int).tdiv (7:Int))).tmod (2:Int)
abbrev APB(a:CsX):Int:=IntKind.i64.wrap ((4:Int)+(↑a.n:Int).tmod (5:Int))
abbrev AUJ(a:CsX):Prop:=a.c.ns.length<=(3:Nat)
abbrev ABJ(a:CsX)(a1:Nat):Prop:=AJG a/\AJQ a a1/\(1:Nat)<=a.c.ns.length/\AUJ a
abbrev ACT(a:CsX):Nat:=(4:Nat)-a.c.ns.length
abbrev AOV(a:CsX):Int:=IntKind.i64.wrap (IntKind.i64.wrap ((↑a.c.ns.length:Int)*(4:Int))+(1:Int))
abbrev yS(a:CsX):Nat:=(0:Nat)+a.c.ns.length
abbrev Z8(a:CsX):Nat:=a.c.ns.length+(1:Nat)
abbrev APO(a:CsX):Int:=IntKind.i64.wrap ((↑a.c.ns.length:Int)+(1:Int))
abbrev API(a:CsX)(a1:CsX):Prop:=a.c.ns.length=Z8 a1
abbrev nF(i:Nat)(a:CsX):Bool:=decide (i<a.c.ns.length)
abbrev APP(a:CsX):Int:=IntKind.i64.wrap ((IntKind.i64.wrap ((↑a.n:Int).tdiv (AOV a))).tmod (9:Int)*APO a)
abbrev ABE(a:CsX)(j:Nat):Nt:=gD a.c.ns ((0:Nat)+j)
abbrev ASR(a:CsX)(j:Nat):Span:=(ABE a j).t
abbrev AUN(a:CsX)(j:Nat):Span:=(ABE a j).s
abbrev AOM(a:Nat):Prop:=∀(a_1:CsX),AJK a_1 a->(∃(a_3:CsX),(Y9 a_3 a_1/\Int.ofNat (0:Nat)=Int.ofNat (0:Nat)/\P0 a_3 a_1/\X2 a_3 a_1/\a_3.c.base=a_1.c.base /\
 a_3.c.scale=a_1.c.scale/\a_3.c.off=a_1.c.off/\R0 a_3 a_1/\O8 a_3 a_1/\AKF/\∀(i:Nat),i<(0:Nat)->false=false)/\AJK a_3 a)/\(∀(a_3:CsX),AJK a_3 a->(AXX≠(0:Int)
 /\ AUE)/\(zA/\zJ/\((0:Int)<=(0:Int)/\(0:Int)<(↑(3:Nat):Int))/\(0:Nat)<(3:Nat)/\APU/\zM/\zM/\AMM/\zJ/\zA/\(True/\((0:Nat)<(0 :
 Nat)->(0:Nat)=(5:Nat)))/\ANP/\(true=true->ABQ)/\(1:Nat)<=(9223372036854775807:Nat)/\(40:Nat)<=(140737488355328:Nat))/\∃(a_5:CsX),(Y9 a_5 a_3/\(↑a_5.c.ns.length:Int) =
 APT/\P0 a_5 a_3/\X2 a_5 a_3/\a_5.c.base=a_3.c.base/\a_5.c.scale=a_3.c.scale/\a_5.c.off=a_3.c.off/\R0 a_5 a_3/\O8 a_5 a_3/\AKF/\APM a_5/\APM a_5/\∀(i :
 Nat),i<a_5.c.ns.length->(gD a_5.c.ns i).mi=(IntKind.i64.wrap ((↑a_3.n:Int)+bif decide (ASG=(0:Nat)) then (0:Int) else bif decide (ASG-(1:Nat)=(0:Nat)) then AQC a_3 else (3 :
 Int))).tmod (4:Int)/\(gD a_5.c.ns i).t.lo=ARA a_3/\(gD a_5.c.ns i).t.hi=IntKind.i64.wrap (ARA a_3+ARB a_3)/\(gD a_5.c.ns i).s.lo=ARD a_3/\(gD a_5.c.ns i).s.hi=APB a_3) /\
 ABJ a_5 a/\ACT a_5<(9:Nat))/\∀(a_3:CsX),ABJ a_3 a->bif decide ((↑a_3.c.ns.length:Int)<(3:Int)) then (AOV a_3≠(0:Int)/\AUE)/\(zA/\zJ/\((0:Int) <=
 (↑a_3.c.ns.length:Int)/\(↑a_3.c.ns.length:Int)<(↑(3:Nat):Int))/\yS a_3<(3:Nat)/\APU/\zM/\zM/\AMM/\zJ/\zA/\(a_3.c.ns.length=a_3.c.ns.length/\((0 :
 Nat)<a_3.c.ns.length->ASF))/\ANP/\(false=true->ABQ)/\Z8 a_3<=(9223372036854775807:Nat)/\Z8 a_3*(40:Nat)<=(140737488355328:Nat))/\∃(a_5:CsX),(Y9 a_5 a_3 /\
 (↑a_5.c.ns.length:Int)=APO a_3/\P0 a_5 a_3/\X2 a_5 a_3/\a_5.c.base=a_3.c.base/\a_5.c.scale=a_3.c.scale/\a_5.c.off=a_3.c.off/\R0 a_5 a_3/\O8 a_5 a_3/\AKF/\API
 a_5 a_3/\API a_5 a_3/\∀(i:Nat),i<a_5.c.ns.length->((gD a_5.c.ns i).mi=bif nF i a_3 then (gD a_3.c.ns i).mi else (IntKind.i64.wrap ((↑a_3.n:Int)+bif decide (yS a_3=(0:Nat)) then (0 :
 Int) else bif decide (yS a_3-(1:Nat)=(0:Nat)) then AQC a_3 else (3:Int))).tmod (4:Int))/\((gD a_5.c.ns i).t.lo=bif nF i a_3 then (gD a_3.c.ns i).t.lo else APP a_3)/\((gD a_5.c.ns
 i).t.hi=bif nF i a_3 then (gD a_3.c.ns i).t.hi else IntKind.i64.wrap (APP a_3+ARB a_3))/\((gD a_5.c.ns i).s.lo=bif nF i a_3 then (gD a_3.c.ns i).s.lo else ARD a_3)/\(gD a_5.c.ns
 i).s.hi=bif nF i a_3 then (gD a_3.c.ns i).s.hi else APB a_3)/\ABJ a_5 a/\ACT a_5<ACT a_3 else ∃(a_5:CsX),(Y9 a_5 a_3/\P0 a_5 a_3/\X2 a_5 a_3/\a_5.c.base =
 a_3.c.base/\a_5.c.scale=a_3.c.scale/\a_5.c.off=a_3.c.off/\R0 a_5 a_3/\O8 a_5 a_3/\a_5.c.ns.length=a_3.c.ns.length/\yS a_3<=a_3.c.ns.length/\∀(j:Nat),j<a_5.c.ns.length->(gD a_5.c.ns
 j).mi=(ABE a_3 j).mi/\(gD a_5.c.ns j).t.lo=(ASR a_3 j).lo/\(gD a_5.c.ns j).t.hi=(ASR a_3 j).hi/\(gD a_5.c.ns j).s.lo=(AUN a_3 j).lo/\(gD a_5.c.ns j).s.hi=(AUN a_3 j).hi) /\
 AJG a_5/\AJQ a_5 a/\AUJ a_5
theorem CLA(w:One):(BZM w)=(∀(a:Nat),a.le (3000:Nat)->AOM a/\AOM a):=by kernel_rfl
def CAB(w:One):Prop:=L_Cs 28
abbrev O0:=CsX.z
abbrev Tf a b:=T5 (CG (Hs a)) b
abbrev Em a:=Tf a 3
abbrev sQ a:=Pz (HM a)
attribute [go_sem] O0 Tf Em sQ
theorem CIX(w:One):(CAB w)=(AB (λi=>FA i 3000 (oW (AVS (λj=>CJ (Fi (Hs j) 3000 i (CW (AO (DG j)) 3)) (DT (NQ 3) (CS (NQ 3) qB (NQ 3) WZ (BX (Em j)) (Hr (Em j) 2) (Or (AF 0) (KA 0 (Em j)))) (AFM 25) (AVO (λk=>LQ (CV (Hs k) (Hs j)) (EV (O0 k) (sQ (Em j))) (VU (QI (HM (Em j))) 2) (AB (λl=>Bd l (O0 k) l (Bz (IV (ZX 0) l) (Em j) (EQ 1 (Xe j 3 2))))) (AY (CsX.t k) (Tf j 25)) (KQ (GM (DG k) (DG j)) (CY (DG k) (DG j)) (GO (DG k) (DG j)) (GH (DG k) (DG j)) (GK (DG k) (DG j)) (VK (DG k) (DG j)) (λl=>Hf l (DG k) (DG j)) (XF (DG k) (DG j)) (AB (λl=>AU l (DG k) (PT (DG k) l (DG j)) (Gu (DG k) l (DG j) l) (AC (DG k) l) (AC (DG j) l) (Er (DG k) l (DG j) l) (AE (DG k) l) (AE (DG j) l)))) (Fi (Hs k) 3000 i (CW (AO (DG k)) 3)))))))))):=by kernel_rfl
def CCQ(w:One):Prop:=L_Cs 30
abbrev aI a:=PO (AFM a)
abbrev Kw a b:=Xe a b 3
attribute [go_sem] aI Kw
theorem CKK(w:One):(CCQ w)=(AB (λi=>FA i 3000 (AVS (λj=>CJ (Fi (Hs j) 3000 i (CW (AO (DG j)) 3)) (And (YX (NQ 4) (AI (NQ 4) (NQ 5) (NQ 9) (NQ 8) (Mi (NQ 20) (NQ 7) qB (Mi (NQ 3) (NQ 7) (NQ 4) (Ag (DG j) (YJ (DG j) (BW (DG j)) (DK (DG j)) (λk=>AT k (DG j) (AM (DG j) k) (AN (DG j) k) (AS (DG j) k) (AC (DG j) k) (AL (DG j) k) (AR (DG j) k) (AE (DG j) k)) (HL (O0 j)) (λk=>QE k (O0 j)) (AF (Tf j 4)) (KQ (AF (CsX.t j)) (EV (El 4 (λk=>Bz k (Tf j 4) (Im k (EQ 2 (Xe j 4 5)) (EQ 6 (Xe j 9 8)) (EQ 10 (Tf j 20))))) 4) (MK 4) (AB (λk=>Bd k (El 4 (λl=>Bz l (Tf j 4) (Im l (EQ 2 (Xe j 4 5)) (EQ 6 (Xe j 9 8)) (EQ 10 (Tf j 20))))) k (RB k (Tf j 4) (Im (BG k) (EQ 2 (Xe j 4 5)) (EQ 6 (Xe j 9 8)) (EQ 10 (Tf j 20)))))) (EV (El 4 (λk=>Bz k (Tf j 7) (Im k (aA j 2) (aA j 3) (aA j 4)))) 4) (MK 4) (λk=>Bd k (El 4 (λl=>Bz l (Tf j 7) (Im l (aA j 2) (aA j 3) (aA j 4)))) k (RB k (Tf j 7) (Im (BG k) (aA j 2) (aA j 3) (aA j 4)))) (HL (O0 j)) (S3 (QW (O0 j)) (aI 3) (Mi (aI 4) (aI 3) (aI 5) (Mi (aI 2) (aI 3) (aI 7) (AI (aI 3) (PO (AH WZ (BX (Em j)) (Hr (Em j) 2))) (PO (Ga (DG j) (Jt (DG j) (λk=>AT k (DG j) (AM (DG j) k) (AN (DG j) k) (AS (DG j) k) (AC (DG j) k) (AL (DG j) k) (AR (DG j) k) (AE (DG j) k)) (AY (JM (kJ (Em j) (Kw j 3))) (Em j)) (AY (JF (kJ (Em j) (Kw j 3))) (Kw j 3)) (AF (Tf j 4)) (MW (GA (lH (sQ (Em j)) (λk=>AJN (lU (yO (dD (Em j) (Kw j 5))) (Ou (yO (dD (Kw j 2) (Kw j 7))))) (Bp k)))) (HM (Em j)) Cn) (AB (λk=>MP k (lH (QI (HM (Em j))) (λl=>AJN (lU (yO (dD (Em j) (Kw j 5))) (Ou (yO (dD (Kw j 2) (Kw j 7))))) (BG l))) (lH (sQ (Em j)) (λl=>AJN (lU (yO (dD (Em j) (Kw j 5))) (Ou (yO (dD (Kw j 2) (Kw j 7))))) (Bp l))) k (Bz (Bp k) (Em j) (Kw j 2)) (lH (sQ (Em j)) (λl=>AJN (lU (yO (dD (Em j) (Kw j 5))) (Ou (yO (dD (Kw j 2) (Kw j 7))))) (Bp l))) (Bz (Bp k) (Kw j 5) (Kw j 7)))) (CJ (DZ (fG (DG j))) (dF (DG j)))))) (aI 5) (Mi (aI 6) (aI 9) (aI 4) (PO (Ga (DG j) (IY (DK (DG j)) (BO (DG j)) (λk=>AT k (DG j) (AM (DG j) k) (AN (DG j) k) (AS (DG j) k) (AC (DG j) k) (AL (DG j) k) (AR (DG j) k) (AE (DG j) k)) (HL (O0 j)) (λk=>QE k (O0 j)) (AF (CsX.t j)) (AF (LH (CsX.t j) (Tf j 5))) (AF (EQ (CsX.t j) (Xe j 6 9))) (AF (Xe j 4 9))))))))))))))))) (KI (λk=>IF (BA k (Hs j)) (ED k 3000) 3000 k i))))))):=by kernel_rfl
theorem CUE(w:One):CGG w:=by
 rw[CNT]<;> delta MD N6 Iv BH BK DY RD RU EM EO CH AB CJ CE AY CG MY CW FV NL UI IG EB FX EC GY GX GR GG DV FO FU FP FS El LW WB US ED JM JF GA QB lU AEJ BFI SS TP Az YT VT HB XW WS AH CK IW AX JE AI WE BC AV AF IK IN BI Qq AQ WV JB BB AC BZ CN BF MC AE AO BD HK DD LZ AZ DC BR BE BS BJ JQ AR BQ WQ SZ BV HF CI OC EQ GQ AS BM CY BY ER FL EV CF AG IE HR CU HO MW CX OE FQ DF DU HY Wj IC DR PC OD EA DT LU HH FE FG FW LV AT IZ MJ JA ZA IT HE OF CR PD GT JJ BA CV HT PX CS GZ Xg DZ BO BW JH FI NN AL AN AM LJ KO ID FK PL DK JI EE KE Kr HL LM EG Mc KT OJ FA MP IB QE OA MR LL NY FH U2 PM uI UP QU PV NH IY PZ RF OI OX RZ PK QW GN Cg SA SD XM Bf YH Fp Pn Gt TY Lx dD Om Jt Ga bI Ug qP Lc kJ fG dF;simp only[CC,eq_self,implies_true,forall_const]
 intro a ha s hs r ⟨r1,r2,r3,r4,r5⟩
 have w1:IntKind.i64.wrap ((r.n:Int)+1)=((r.n+1:Nat):Int):=II (by omega)
 have k:∃x:CsI,(gD csV x.i=gD csV r.i/\(x.n:Int)=IntKind.i64.wrap ((r.n:Int)+1)/\(x.i:Int)=r.i)/\(x.i<42/\42-x.i=42-a/\x.n<=32)/\32-x.n<32-s.n:=⟨⟨r.i,r.n+1⟩,⟨rfl,w1.symm,rfl⟩,⟨r1,r2,by show r.n+1<=32;omega⟩,by show 32-(r.n+1)<32-s.n;omega⟩
 refine⟨λ_=>⟨rfl,rfl,λ_ _=>by omega⟩,?_,λ_=>k⟩
 simp
theorem CGW{x:CsX}{k M R:Nat}{W:Int}(hW:((k+1:Nat):Int)=W)(h1:x.n<3000)(h2:3000-x.n=M)(hk:k+1<=4)(hR:4-(k+1)<R)(A B:Nat->Int):∃y:CsX,((y.n:Int)=(x.n:Int)/\(y.c.ms.length:Int)=W/\y.c.p.lo=x.c.p.lo/\y.c.p.hi=x.c.p.hi/\y.c.base=x.c.base/\y.c.scale=x.c.scale/\y.c.off=x.c.off/\y.c.ms.length=k+1/\y.c.ms.length=k+1/\∀i,i<y.c.ms.length->(gD y.c.ms i).pl=A i/\(gD y.c.ms i).ht=B i)/\(y.n<3000/\3000-y.n=M/\0<y.c.ms.length/\y.c.ms.length<=4)/\4-y.c.ms.length<R:=by
 obtain⟨l,l1,l2⟩:=BZI (k+1) A B
 exact⟨⟨x.n,⟨x.c.p,x.c.base,x.c.scale,x.c.off,l,[]⟩,[],0⟩,⟨rfl,by show (l.length:Int)=W;rw[l1];exact hW,rfl,rfl,rfl,rfl,rfl,l1,l1,l2⟩,⟨h1,h2,by show 0<l.length;omega,by show l.length<=4;omega⟩,by show 4-l.length<R;rw[l1];exact hR⟩
theorem CGN{x:CsX}{k M R:Nat}{W:Int}(hW:((k+1:Nat):Int)=W)(h1:x.n<3000)(h2:3000-x.n=M)(hk:k+1<=3)(hR:4-(k+1)<R)(A B C D E:Nat->Int):∃y:CsX,((y.n:Int)=(x.n:Int)/\(y.c.ns.length:Int)=W/\y.c.p.lo=x.c.p.lo/\y.c.p.hi=x.c.p.hi/\y.c.base=x.c.base/\y.c.scale=x.c.scale/\y.c.off=x.c.off/\y.c.ms.length=x.c.ms.length/\(∀i,i<y.c.ms.length->(gD y.c.ms i).pl=(gD x.c.ms i).pl/\(gD y.c.ms i).ht=(gD x.c.ms i).ht)/\y.c.ns.length=k+1/\y.c.ns.length=k+1/\∀i,i<y.c.ns.length->(gD y.c.ns i).mi=A i/\(gD y.c.ns i).t.lo=B i/\(gD y.c.ns i).t.hi=C i/\(gD y.c.ns i).s.lo=D i/\(gD y.c.ns i).s.hi=E i)/\(y.n<3000/\3000-y.n=M/\0<y.c.ns.length/\y.c.ns.length<=3)/\4-y.c.ns.length<R:=by
 obtain⟨l,l1,l2⟩:=BYB (k+1) A B C D E
 exact⟨⟨x.n,⟨x.c.p,x.c.base,x.c.scale,x.c.off,x.c.ms,l⟩,[],0⟩,⟨rfl,by show (l.length:Int)=W;rw[l1];exact hW,rfl,rfl,rfl,rfl,rfl,rfl,λ_ _=>⟨rfl,rfl⟩,l1,l1,l2⟩,⟨h1,h2,by show 0<l.length;omega,by show l.length<=3;omega⟩,by show 4-l.length<R;rw[l1];exact hR⟩
theorem CZW(w:One):CHZ w:=by
 rw[CJC]<;> delta MD Iv BH BK RD RU CH AB CJ CE AY CG MY CW FV NL UI IG EB FX EC GY GX GR GG KI IP LW IV VS ED NR Rn Qu Qr Qj Lg bX AVO Hs DG T5 AVS AH AX AI BC AV AF BI GJ MK YX Qq Mi BAZ AQ BB CN BF BD AZ BG BE BS JQ CI EQ BL CY ER FL AG HR TV KJ MW GD DU MZ PC EA KQ FG FW HN MJ IT EZ JJ BP NF CV DO CS OB JH FI FK IU JU JW GK Gb XI JZ GM GH FA SN CQ GO EY PO FY OZ VU Bb JK KC ZZ IF ON AMZ HX Hd Xe VK NQ Ce TL RN YM Si Ik Cd Ly Hh He Qv Ll AGI Ln Dw Zy AFM Fz Lc Kk aA K2 Ng qB;simp only[CC,eq_self,implies_true,forall_const]
 refine⟨⟨0,rfl,by omega⟩,λa ha=>⟨λh=>⟨by decide,⟨⟨a,⟨⟨_,_⟩,_,_,_,[],[]⟩,[],0⟩,⟨rfl,rfl,rfl,rfl,rfl,rfl⟩,by show a<3000;omega,rfl⟩,λx ⟨x1,x2⟩=>⟨by decide,CGW (k:=0) rfl x1 x2 (by omega) (by omega) _ _⟩,λx ⟨x1,x2,x3,x4⟩=>⟨λhl=>⟨⟨?_,by decide,by omega,(λh=>by cases h),by omega,by omega⟩,CGW (II (by omega)).symm x1 x2 (by omega) (by omega) _ _⟩,λ_=>⟨x,⟨rfl,rfl,rfl,rfl,rfl,rfl,rfl,Nat.le_refl _,λ_ _=>⟨rfl,rfl⟩⟩,x1,x2⟩⟩⟩,λ_=>⟨default,trivial⟩⟩⟩
 rw[Ap (by omega) (by omega)];omega
theorem CWE(w:One):BZM w:=by
 rw[CLA];delta AJG AJQ AJK Y9 P0 X2 R0 O8 AKF AXX AUE zA zJ APU zM AMM ABQ ASF ANP APT APM ASG AQC ARA ARB ARD APB AUJ ABJ ACT AOV yS Z8 APO API nF APP ABE ASR AUN AOM;simp only[CC,eq_self,implies_true,forall_const]
 refine λa ha x ⟨x1,x2⟩=>⟨⟨x,⟨rfl,rfl,rfl,rfl,rfl,rfl,rfl,λ_ _=>⟨rfl,rfl⟩⟩,x1,x2⟩,λx ⟨x1,x2⟩=>⟨by decide,by decide,CGN (k:=0) rfl x1 x2 (by omega) (by omega) _ _ _ _ _⟩,λx ⟨x1,x2,x3,x4⟩=>⟨λhl=>⟨⟨?_,by decide⟩,⟨by decide,by decide,⟨by omega,by omega⟩,by omega,by decide,by decide,by decide,by decide,by decide,by decide,by omega,(λh=>by cases h),by omega,by omega⟩,CGN (II (by omega)).symm x1 x2 (by omega) (by omega) _ _ _ _ _⟩,λ_=>⟨x,⟨rfl,rfl,rfl,rfl,rfl,rfl,rfl,λ_ _=>⟨rfl,rfl⟩,rfl,Nat.le_refl _,λ_ _=>⟨rfl,rfl,rfl,rfl,rfl⟩⟩,x1,x2,x4⟩⟩⟩
 rw[Ap (n:=(x.c.ns.length:Int)*4) (by omega) (by omega),Ap (by omega) (by omega)];omega
theorem CRW{a b:Int}(ha:0<=a)(hb:0<b):0<=a.tmod b/\a.tmod b<b:=⟨Int.tmod_nonneg _ ha,Int.tmod_lt_of_pos _ hb⟩
theorem cs_z{x:CsX}{k M:Nat}{t:Int}{P:Prop}(hP:P)(h1:x.n<3000)(h2:3000-x.n=M)(h3:x.c.ns.length<=3)(A:Nat->Int):∃y:CsX,((y.n:Int)=(x.n:Int)/\y.z.length=k/\P/\(∀j,j<y.z.length->gD y.z j=A j)/\y.t=t/\y.c.p.lo=x.c.p.lo/\y.c.p.hi=x.c.p.hi/\y.c.base=x.c.base/\y.c.scale=x.c.scale/\y.c.off=x.c.off/\y.c.ms.length=x.c.ms.length/\(∀i,i<y.c.ms.length->(gD y.c.ms i).pl=(gD x.c.ms i).pl/\(gD y.c.ms i).ht=(gD x.c.ms i).ht)/\y.c.ns.length=x.c.ns.length/\∀i,i<y.c.ns.length->(gD y.c.ns i).mi=(gD x.c.ns i).mi/\(gD y.c.ns i).t.lo=(gD x.c.ns i).t.lo/\(gD y.c.ns i).t.hi=(gD x.c.ns i).t.hi/\(gD y.c.ns i).s.lo=(gD x.c.ns i).s.lo/\(gD y.c.ns i).s.hi=(gD x.c.ns i).s.hi)/\y.n<3000/\3000-y.n=M/\y.c.ns.length<=3:=by
 obtain⟨l,l1,l2⟩:=AIG k A
 exact⟨⟨x.n,x.c,l,t⟩,⟨rfl,l1,hP,l2,rfl,rfl,rfl,rfl,rfl,rfl,rfl,λ_ _=>⟨rfl,rfl⟩,rfl,λ_ _=>⟨rfl,rfl,rfl,rfl,rfl⟩⟩,h1,h2,h3⟩
theorem CXM(w:One):CAB w:=by
 rw[CIX]<;> delta BH BK DY RD RU EM EO CH AB CJ CE AY CG MY CW HD KA UI IG EB FX EC GY GX GR GG DV FO FU FP FS HM IV VS ED NR WW Rn AVO Hs DG T5 AVS O0 AH CK AX AI BC AV AF oW AQ BB AC CN BF AE AO BD DD AZ DC BG BR BE BS BJ JQ CI EQ GQ BL CY FL EV BX NU CU HO MW CX DU HY DR PC DT KQ FW Bz ZX HE GT CV AU CS FI JU JW GK MH JZ GM GH FA Td GO PT Fi VU ZZ Cn AMZ Xe Tf VK XF NQ Mw Si LQ Hf WZ QI Hr Em AGI Pz Xk AFM Bd Er Gu sQ qB;simp only[CC,eq_self,implies_true,forall_const]
 intro a ha x ⟨x1,x2,x3⟩
 have q1:=CRW (a:=(x.n:Int)) (b:=3) (by omega) (by omega)
 exact⟨⟨by decide,by decide,by decide,by decide,by omega,q1.1,by omega,.inl trivial⟩,by decide,cs_z (by omega) x1 x2 x3 _⟩
theorem CUD(w:One):CCQ w:=by
 rw[CKK]<;> delta MD Iv BH BK DY RD RU Mr EM EO CH AB CJ CE AY CG MY CW HD UI IG EB FX EC GY GX GR GG DV FO FU KI FP FS El LW US HM IV VS ED NR WW Rn JM JF GA QB lU AEJ AJN yO Hs DG T5 AVS O0 AH CK IW AX JE AI WE BC AV AF IK IN GJ MK YX Oh Mi S3 AQ WV JB BB AC BZ CN BF AEF MC AE AO BD HK DD LZ AZ DC BG BR BE BS BJ JQ AR BQ WQ SZ BV HF CI OC EQ GQ AS BM CY BY FL EV CF IE HR BX NU CU HO MW CX OE LH FQ DF DU HY IC DR PC OD LU KQ HH FE FG FW LV AT IZ Bz MJ JA OF CR GT JJ BA CS WX J2 GZ Xg DZ BO BW JH FI AL AN AM LJ KO ID DK IU Kr HL LM Mc FA MP Td QE Fi PO U2 ZZ Cn IF AMZ Xe IY RB Tf UC NQ AUA QW MO SA Si Fp WZ QI Hr Gt Bp Em AGI Im Pz Lx dD Vq Xk Om AFM Kw Bd YJ Jt Ga Ag aI Ou aA kJ fG lH sQ qB dF;simp only[CC,eq_self,implies_true,forall_const,FR]
 intro a ha x ⟨x1,x2,x3⟩
 have q1:=CRW (a:=(x.n:Int)) (b:=3) (by omega) (by omega)
 refine⟨?_,x.n+1,(II (by omega)).symm,by omega,by omega⟩
 repeat (first | refine⟨by decide,?_⟩ | refine⟨λj hj=>FF _ _ _ hj,?_⟩)
 refine⟨⟨Int.le_refl _,q1.1,by omega⟩,⟨rfl,rfl,λi hi=>?_,λ_ _=>by omega⟩,by decide,by decide,by decide,by decide,by decide⟩
 have hi:i<((x.n:Int).tmod 3).toNat-Int.toNat 0:=hi
 have h2:i<2:=by
  have e:Int.toNat 0=0:=rfl
  omega
 rw[FF _ _ _ hi]
 match i,h2 with
 |0,_=>exact⟨rfl,rfl⟩
 |1,_=>exact⟨rfl,rfl⟩
end Go.Bal
