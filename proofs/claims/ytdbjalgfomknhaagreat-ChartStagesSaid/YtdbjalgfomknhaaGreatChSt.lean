/- ChartStages: the law's walk. -/
import Derived.Test.YtdbjalgfomknhaaGreatChZg
import Derived.Test.YtdbjalgfomknhaaGreatChZp
set_option linter.unusedVariables false
set_option linter.unusedSimpArgs false
namespace Go.Bal
open Go Go.Sym Go.Proofs
structure StI where
 a : CZ
 t : Int
 f : Int
 o : Int
 s : Int
def xSt (x : StI) : List AVal := [.d (Ef x.a.c), .d (JO x.a.z), .int x.t, .int x.f, .int x.o, .int x.s]
def A_St : Ann := ann 124 [(T8, C_big.spec AQT), (AGH, ART), (AOJ, C_cpC.spec oQ), (AEW, C_cpI.spec AEP), (qS, C_law.spec oQ), (L2, C_Stage.spec dCZI), (Y2, C_Stage.spec dCZI), (AHV, C_Peak.spec dCZ2), (AEI, C_Peak.spec dCZ2), (N3, C_First.spec dCZI), (Y5, C_First.spec dCZI), (AGN, C_smI.spec AEP), (C1, C_smC.spec AQT)]
def V_St (x : StI) : Prop := CL Try.prog A_St xD (AH xD) (xSt x) (AB []) (.bool true) [] [] []
abbrev ON:=StI.a
abbrev pQ:=StI.t
abbrev uC:=CZI.mk
abbrev pH:=StI.f
abbrev oM:=StI.o
abbrev J5:=CZ2.mk
abbrev AJO:=@BEq.beq Bool (@instBEqOfDecidableEq Bool instDecidableEqBool)
abbrev AEJ a b:=cC (uC a (StI.s b))
abbrev cK a b:=Bc (ON a) b
abbrev aP a:=EO (Ao (ON a)) (λ i=>cK a i)
abbrev G4 a:=ZB (ON a)
abbrev kD a:=GJ (TB (ON a)) (G4 a)
abbrev gL a:=Hh (Cl (ON a) (ON a) (kD a) (aP a)) (ON a)
abbrev Kg a b:=AEJ (gL a) b
abbrev Av a:=QX (ON a)
abbrev Cb a:=Sq (Av a)
abbrev gP a:=CZ.mk (Cl (ON a) (ON a) (kD a) (aP a)) (Cb a)
abbrev Hq a b:=AEJ (gP a) b
abbrev jK a:=BI (FsR.s a)
abbrev kX a:=BA (FsR.s a)
abbrev Ir a:=DS (aP a)
abbrev Ky a:=ER (kD a)
abbrev Dg a:=FT (ON a)
abbrev Xs a b:=CN (kD a) b
abbrev AFF a b:=CE (Ky a) b
abbrev Ug a:=AL (Dg a)
abbrev Ul a:=AM (Dg a)
abbrev Sw a:=DS (Ao (ON a))
abbrev gA a b:=CE (Ir a) (Sw b)
abbrev dW a b:=CV (G4 a) b
abbrev eX a b:=CV (kD a) b
abbrev Pn a b:=CN (G4 a) b
abbrev AAE a:=TB (ON a)
abbrev gH a b:=AFF a (AAE b)
abbrev Yb a:=AP (Dg a)
abbrev jY a:=EJ (Ir a)
abbrev lD a:=EJ (Ky a)
abbrev iS a:=AT (Dg a)
abbrev eO a:=AS (Dg a)
attribute [go_sem] ON pQ uC pH oM J5 AJO AEJ cK aP G4 kD gL Kg Av Cb gP Hq jK kX Ir Ky Dg Xs AFF Ug Ul Sw gA dW eX Pn AAE gH Yb jY lD iS eO
theorem BQP (x : StI) : (V_St x) = (GN (QI (Dg x) (Dg x) (Dg x) (RH (ON x)) (λ i=>SU i (ON x) (Pn x i) (Dg x) (G4 x) i) (EV (Sw x) (Dg x)) (λ i=>NL i (Sw x) (cK x i) (SV (ON x) i))) (NC (bigV (KG (ON x))) (OT (BV (NM (ON x))) 45)) HF (AG (AG (Ul x) (Ug x) (Yb x) (eO x) (PZ (Dg x) (RH (ON x)) (λ i=>SU i (ON x) (Pn x i) (Dg x) (G4 x) i) (EV (Sw x) (Dg x)) (AC (λ i=>NL i (Sw x) (cK x i) (SV (ON x) i))) (And (OB (AAE x)) (OB (Sw x))) (QC (Av x) (ON x)) (AC (λ i=>QM i (Av x) (ON x))) (ME (BV (Av x)) 1073741824))) (NE (Dg x) (RH (ON x)) (λ i=>SU i (ON x) (Pn x i) (Dg x) (G4 x) i) (EV (Sw x) (Dg x)) (λ i=>NL i (Sw x) (cK x i) (SV (ON x) i)) (DH (AAE x) 42) (DH (Sw x) 42)) (CI (Ul x) (Ug x) (Yb x) (eO x) (iS x) (gH x x) (DO (λ i=>CS i (Ky x) (Xs x i) (Pn x i) (eX x i) (dW x i)) (gA x x) (λ i=>Al i (Ir x) (aP x) i (cK x i)) (EK (Cb x) (Av x)) (PI (Cb x) (Av x)) (AF (pQ x)) (lD x) (jY x) (OP (Cb x)))) (CI (Ul x) (Ug x) (Yb x) (eO x) (iS x) (gH x x) (DO (λ i=>CS i (Ky x) (Xs x i) (Pn x i) (eX x i) (dW x i)) (gA x x) (λ i=>Al i (Ir x) (aP x) i (cK x i)) (QC (Av x) (ON x)) (AC (λ i=>QM i (Av x) (ON x))) (AF (pQ x)) (lD x) (jY x) (OP (Av x)))) (Gk (TU (Rd (pR (uC (gP x) (pQ x)))) (Rd (pR (uC (gL x) (pQ x))))) (Ck (BA (Gm (uC (gP x) (pQ x)))) (BA (Gm (uC (gL x) (pQ x)))) (BI (Gm (uC (gP x) (pQ x)))) (BI (Gm (uC (gL x) (pQ x))))) Mv (AE (HP (Ul x) (Ug x) (Yb x) (eO x) (iS x) (gH x x) (AC (λ i=>CS i (Ky x) (Xs x i) (Pn x i) (eX x i) (dW x i))) (BY (gA x x) (λ i=>Al i (Ir x) (aP x) i (cK x i)) (EK (Cb x) (Av x)) (PI (Cb x) (Av x)) (AF (pH x)) (AF (oM x)) (lD x) (jY x) (OP (Cb x)))) (HP (Ul x) (Ug x) (Yb x) (eO x) (iS x) (gH x x) (AC (λ i=>CS i (Ky x) (Xs x i) (Pn x i) (eX x i) (dW x i))) (BY (gA x x) (λ i=>Al i (Ir x) (aP x) i (cK x i)) (QC (Av x) (ON x)) (AC (λ i=>QM i (Av x) (ON x))) (AF (pH x)) (AF (oM x)) (lD x) (jY x) (OP (Av x)))) (Gk (TU (Rd (jN (J5 (gP x) (pH x) (oM x)))) (Rd (jN (J5 (gL x) (pH x) (oM x))))) (Ck (BA (Co (J5 (gP x) (pH x) (oM x)))) (BA (Co (J5 (gL x) (pH x) (oM x)))) (BI (Co (J5 (gP x) (pH x) (oM x)))) (BI (Co (J5 (gL x) (pH x) (oM x))))) Mv (AN (CI (Ul x) (Ug x) (Yb x) (eO x) (iS x) (gH x x) (DO (λ i=>CS i (Ky x) (Xs x i) (Pn x i) (eX x i) (dW x i)) (gA x x) (λ i=>Al i (Ir x) (aP x) i (cK x i)) (EK (Cb x) (Av x)) (PI (Cb x) (Av x)) (AF (StI.s x)) (lD x) (jY x) (OP (Cb x)))) (CI (Ul x) (Ug x) (Yb x) (eO x) (iS x) (gH x x) (DO (λ i=>CS i (Ky x) (Xs x i) (Pn x i) (eX x i) (dW x i)) (gA x x) (λ i=>Al i (Ir x) (aP x) i (cK x i)) (QC (Av x) (ON x)) (AC (λ i=>QM i (Av x) (ON x))) (AF (StI.s x)) (lD x) (jY x) (OP (Av x)))) (And (HL (Jw (WI (Wf (Hq x x)) (Wf (Kg x x))) (aH (kX (Hq x x)) (kX (Kg x x)) (jK (Hq x x)) (jK (Kg x x))) (AJO (Us (Hq x x)) (Us (Kg x x)))) (AN (Ul x) (Ug x) (Yb x) (JA (Dg x) (gH x x) (AC (λ i=>CS i (Ky x) (Xs x i) (Pn x i) (eX x i) (dW x i))) (gA x x) (λ i=>Al i (Ir x) (aP x) i (cK x i)) (Ul x) (Ug x) (HE (Dg x) (AFF x (NV (ON x))) (λ i=>UE i (Ky x) (Xs x i) (Dg x) (kD x) i) (EV (Ir x) (Dg x)) (λ i=>Al i (Ir x) (aP x) i (SV (ON x) i)) (OB (Ky x)) (OB (Ir x)))))) (HL (GH (Jw (WI (Wf (Hq x x)) (Wf (Kg x x))) (aH (kX (Hq x x)) (kX (Kg x x)) (jK (Hq x x)) (jK (Kg x x))) (AJO (Us (Hq x x)) (Us (Kg x x)))) IX) (Ej (EK (Cb x) (Av x)) (PI (Cb x) (Av x)) (QC (Cb x) (ON x)) (λ i=>QM i (Cb x) (ON x)) (ME (BV (Cb x)) 1073741824)))) (KY IX (GH (Jw (Jw (WI (Wf (Hq x x)) (Wf (Kg x x))) (aH (kX (Hq x x)) (kX (Kg x x)) (jK (Hq x x)) (jK (Kg x x))) (AJO (Us (Hq x x)) (Us (Kg x x)))) IX IX) IX)))))))) := by kernel_rfl
theorem BDQ {c : Cht} (h : bigV c = false) : c.ms.length <= 42 /\ c.ns.length <= 22 := by
 unfold bigV at h
 simp only [Bool.or_eq_false_iff, decide_eq_false_iff_not] at h
 omega
theorem p_St (x : StI) : V_St x := by
 rw [BQP]<;> delta KY Aq BA BI FW EX FI CE AC BX CM AQ BU DH DX ER GP GA HQ HT HC HR DS GB ED WI IX As TU LL BV BQ FT SA NM Tb Rd Us Wf pR cC jN ON pQ uC pH oM J5 AJO AE BG AW EO GJ GI AG SV GM NV BF BE UR CK AR VB CN BD AF CG EZ AO CQ BS CV Dc JL CY BO CR AL kK ZB Ao Sq QX Bc Cl CF AM AT DR AS EG FC Db AP FG CS FV TB DF HA cK FU KG ET AN BY NY FY FJ EV EJ DI Hh HH LR OK G4 HL OM Dg HJ MT aP EK OX QV Av QI MD EU ME kD GZ LI IY PF CI UE SU Cb GH FP GN HF HP lL HE NL DO QC Ly OP AEJ Ir Ky NC JA QM ZT OT OB gP Sw Co RH gL Gm Jw PI ZZ Kg Hq aH Pn AAE Ul PZ Al NE Ug Ck Yb Mv Gk Xs AFF eO gH Ej eX lD gA dW iS jK jY kX; simp only [CC, eq_self, implies_true, forall_const, DN, Cg]
 simp only [bne_self_eq_false, beq_self_eq_true, Bool.and_self, Bool.not_true, cond_false, cond_true, Bool.false_eq_true, false_implies, true_and, forall_const]
 intro h0
 simp only [Bool.cond_true_left, Bool.or_eq_false_iff, decide_eq_false_iff_not] at h0
 obtain ⟨hB, hz⟩ := h0
 obtain ⟨b1, b2⟩ := BDQ hB
 exact ⟨by omega, by omega, by omega, by omega, by omega, by omega, by omega, by omega, by omega, trivial⟩
theorem BQC (x : StI) : FnT Try.prog ACR (xSt x) (AB []) (.bool true) [] := Rc (A := A_St) (L := []) (keep := []) (ren := []) (fz := []) ALT (by kernel_rfl) (AA BMA (AA ATX (AA BMS (AA BMG (AA BMH (AA AKE (AA BDU (AA AQL (AA BLB (AA AJU (AA BFW (AA BMZ (AA BNE AD))))))))))))) (p_St x)
end Go.Bal
