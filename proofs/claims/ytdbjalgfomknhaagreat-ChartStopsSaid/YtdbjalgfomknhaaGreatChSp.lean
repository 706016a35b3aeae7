/- ChartStops: the law's walk. -/
import Derived.Test.YtdbjalgfomknhaaGreatChSp0
import Derived.Test.YtdbjalgfomknhaaGreatChZy
set_option linter.unusedVariables false
set_option linter.unusedSimpArgs false
namespace Go.Bal
open Go Go.Sym Go.Proofs
structure SpI where
 c : Cht
 p : Pr
 n : Int
 l : List Pr
def xSp (x : SpI) : List AVal := [.d (Ak x.c), .d (ePr x.p), .int x.n, .d (Kw x.l)]
def A_Sp : Ann := ann 153 [(AAV, C_big.spec BAM), (ALV, BAJ), (ATV, C_cpC.spec aM), (AOC, C_cpP.spec AXM), (tA, C_law.spec aM), (AUH, C_Late.spec dCP), (ANA, C_Late.spec dCP), (AAL, C_Stops.spec aM), (D2, C_zFw.spec aM), (AAM, C_Pairs.spec aM), (xC, C_Times.spec dCZ), (O8, C_prov.spec dPrv), (uI, C_cpP.spec AXM), (zH, C_prov.spec dPrv), (AAN, C_samP.spec dPP2), (P4, C_smC.spec BAM)]
def V_Sp (x : SpI) : Prop := CF Try.prog A_Sp AHD (AH AHD) (xSp x) (AB []) (.bool true) [] [] []
abbrev FR:=SpI.c
abbrev rG:=SpI.l
abbrev cH a b:=Xg (rG a) b
abbrev Cz a:=AJQ (rG a) (λ i=>cH a i)
abbrev Lh a:=X6 (Cz a)
abbrev hY a:=(@BEq.beq Bool (@instBEqOfDecidableEq Bool instDecidableEqBool)) (iS a) (iS a)
abbrev AAW a b:=II (FR a) b
abbrev ASN a:=FT (FA (FR a)) (λ i=>AAW a i)
abbrev ARB a:=GN (EH (FR a)) (JD (FR a))
abbrev Xz a:=NH (FR a) (ARB a) (ASN a)
abbrev ADZ a b c:=UA (Prv.mk (Xz a) b c)
abbrev Kt a b c:=ADZ a (SpI.n b) (Lh c)
abbrev lV a:=Ey (aZ a) (aZ a)
abbrev ZE a:=IE (Cz a)
abbrev gZ a:=IE (Lh a)
abbrev jT a:=EQ (gZ a)
abbrev UW a:=DV (ASN a)
abbrev lZ a:=ET (ARB a)
abbrev ACN a b:=EY (ASN a) b
abbrev Fv a b:=EA (ACN a b)
abbrev Ha a b:=EB (ACN a b)
abbrev ANX a b:=FU (ARB a) b
abbrev Fu a b:=HC (ANX a b)
abbrev Gz a b:=GV (ANX a b)
abbrev Bt a:=AL (FR a)
abbrev Cl a:=AJ (FR a)
abbrev Ln a b:=IV (FR a) b
abbrev Mc a b:=JE (FR a) b
abbrev Of a b c d:=Xb (ACN a b) (AAW c d)
abbrev Lx a b:=PQ (UW a) (FR b)
abbrev Nq a b c d e f:=EW a (lZ b) c d e f
abbrev Mf a b:=IW (FR a) b
abbrev Nm a b:=JA (FR a) b
abbrev Mj a b:=ND (lZ a) (FR b)
abbrev Ru a:=AN (FR a)
abbrev Qj a:=AM (FR a)
abbrev Wk a:=EQ (UW a)
abbrev Wb a:=EQ (lZ a)
abbrev Zv a:=AQ (FR a)
abbrev uD a:=cX (Xz a)
abbrev M7 a:=Yl (uD a)
abbrev iG a:=X6 (M7 a)
abbrev kI a:=X6 (iG a)
abbrev gE a:=bO (uD a)
attribute [go_sem] FR rG cH Cz Lh hY AAW ASN ARB Xz ADZ Kt lV ZE gZ jT UW lZ ACN Fv Ha ANX Fu Gz Bt Cl Ln Mc Of Lx Nq Mf Nm Mj Ru Qj Wk Wb Zv uD M7 iG kI gE
theorem BYW (x : SpI) : (V_Sp x) = (And (UJ (FR x) (BP (FR x)) (λ i=>BH i (FR x)) (BN (FR x)) (AF (λ i=>IS i (FR x) (EV (AAW x i) (FR x) i) (FR x) i (FR x) (FR x) i))) (EC (XP (bigV (CU (FR x))) (BE (IE (rG x))) 45) KS (Wq (AG (Cl x) (Bt x) (Qj x) (Ru x) (GU (Zv x) (BP (FR x)) (λ i=>BH i (FR x)) (BN (FR x)) (AF (λ i=>IS i (FR x) (EV (AAW x i) (FR x) i) (FR x) i (FR x) (FR x) i)) (And (MJ (EH (FR x))) (Ma (FR x))) (Ni (Cz x) (rG x)) (AF (λ i=>Ao i (ZE x) (Cz x) (QW (cH x i)) (QS (cH x i)))) (JX (ZE x) 1073741824))) (AD (Cl x) (Bt x) (YW (FR x) (λ i=>IS i (FR x) (EV (AAW x i) (FR x) i) (FR x) i (FR x) (FR x) i) (Qc (FR x) 42) (EU (FD (FR x)) 42))) (AG (Cl x) (Bt x) (Qj x) (Ru x) (GU (Zv x) (Mj x x) (λ i=>Nq i x (Gz x i) (Nm x i) (Fu x i) (Mf x i)) (Lx x x) (AF (λ i=>DU i (UW x) (Of x i x i) (Ha x i) (Mc x i) (Fv x i) (Ln x i))) (AE (QW (SpI.p x))) (AE (QS (SpI.p x))) (Wb x) (Wk x))) (EC (PP (zT (aZ (Zh (CP.mk (Xz x) (SpI.p x))))) (not (hY (Zh (CP.mk (Xz x) (SpI.p x)))))) Qg (IN (Cl x) (Bt x) (HB (FR x) (Mj x x) (λ i=>Nq i x (Gz x i) (Nm x i) (Fu x i) (Mf x i)) (Lx x x) (λ i=>DU i (UW x) (Of x i x i) (Ha x i) (Mc x i) (Fv x i) (Ln x i)) (Wb x) (Wk x)) (YO (AD (Cl x) (Bt x) (HB (FR x) (Mj x x) (λ i=>Nq i x (Gz x i) (Nm x i) (Fu x i) (Mf x i)) (Lx x x) (λ i=>DU i (UW x) (Of x i x i) (Ha x i) (Mc x i) (Fv x i) (Ln x i)) (Wb x) (Wk x))) (EC (PP (PP (zU (SI (Xy (uD x)) (W8 (cE (Xz x)))) LC (SI (Xy (uD x)) (W8 (cE (Xz x))))) (SI (YD (gE x)) (Ve (Xz x)))) (SI (BE (IE (M7 x))) (Ve (Xz x)))) Qg (Bs (Jn (Xy (uD x))) (BC (Cl x) (AG (Bt x) (Qj x) (Ru x) (Zv x) (CW (Mj x x) (λ i=>Nq i x (Gz x i) (Nm x i) (Fu x i) (Mf x i)) (Lx x x) (AF (λ i=>DU i (UW x) (Of x i x i) (Ha x i) (Mc x i) (Fv x i) (Ln x i))) (DY (Ag (gE x)) (gE x)) (VI (Ag (gE x)) (gE x)) (Wb x) (Wk x) (RR (Ag (gE x))))) (EC (MH (Ua (Bq (Xz x) (Ag (gE x))))) Qg (BC (Ni (iG x) (M7 x)) (AR (AF (λ i=>QX i (IE (iG x)) (iG x) (M7 x) i i)) (MJ (IE (iG x))) (Cl x) (Bt x) (Qj x) (Ru x) (Zv x) (Mj x x) (EX (AF (λ i=>Nq i x (Gz x i) (Nm x i) (Fu x i) (Mf x i))) (Lx x x) (AF (λ i=>DU i (UW x) (Of x i x i) (Ha x i) (Mc x i) (Fv x i) (Ln x i))) (AE (Ve (Xz x))) (Ni (kI x) (iG x)) (λ i=>QX i (IE (kI x)) (kI x) (iG x) i i) (Wb x) (Wk x) (EQ (IE (kI x))))) (Bs (PP (MH (aZ (ADZ x (Ve (Xz x)) (kI x)))) (not (iS (ADZ x (Ve (Xz x)) (kI x))))) Qg (DT (Cl x) (Bt x) (Qj x) (Ru x) (Zv x) (Mj x x) (EX (AF (λ i=>Nq i x (Gz x i) (Nm x i) (Fu x i) (Mf x i))) (Lx x x) (AF (λ i=>DU i (UW x) (Of x i x i) (Ha x i) (Mc x i) (Fv x i) (Ln x i))) (AE (SpI.n x)) (RQ (Lh x) (ZE x)) (λ i=>QX i (gZ x) (Lh x) (Cz x) i i) (Wb x) (Wk x) (jT x))) (CE (Ni (Cz x) (rG x)) (AR (AF (λ i=>Ao i (ZE x) (Cz x) (QW (cH x i)) (QS (cH x i)))) (MJ (ZE x)) (Cl x) (Bt x) (Qj x) (Ru x) (Zv x) (Mj x x) (EX (AF (λ i=>Nq i x (Gz x i) (Nm x i) (Fu x i) (Mf x i))) (Lx x x) (AF (λ i=>DU i (UW x) (Of x i x i) (Ha x i) (Mc x i) (Fv x i) (Ln x i))) (AE (SpI.n x)) (RQ (Lh x) (ZE x)) (λ i=>QX i (gZ x) (Lh x) (Cz x) i i) (Wb x) (Wk x) (jT x))) (And (HO (LJ (lV (Kt x x x)) (hY (Kt x x x))) (And (Cl x) (AD (Bt x) (Qj x) (JJ (Ru x) (FR x) (Mj x x) (AF (λ i=>Nq i x (Gz x i) (Nm x i) (Fu x i) (Mf x i))) (Lx x x) (λ i=>DU i (UW x) (Of x i x i) (Ha x i) (Mc x i) (Fv x i) (Ln x i)) (Cl x) (Bt x) (HB (FR x) (HD (lZ x) (FR x)) (λ i=>GA i (lZ x) (Gz x i) (FR x) (Fu x i)) (EZ (UW x) (FR x)) (λ i=>GC i (UW x) (EV (ACN x i) (FR x) i) (Ha x i) (FR x) (Fv x i)) (MJ (lZ x)) (MJ (UW x))))))) (HO (YI (lV (Kt x x x)) (hY (Kt x x x)) LC) (And (RQ (Lh x) (ZE x)) (AG (AF (λ i=>QX i (gZ x) (Lh x) (Cz x) i i)) (Ni (Cz x) (rG x)) (AF (λ i=>Ao i (ZE x) (Cz x) (QW (cH x i)) (QS (cH x i)))) (jT x) (EQ (ZE x)))))) (JH LC (YI (YI (lV (Kt x x x)) (hY (Kt x x x)) LC) (samP (PP2.mk (Lh x) (Cz x))) LC))))))) (DT (Cl x) (Bt x) (Qj x) (Ru x) (Zv x) (Mj x x) (EX (AF (λ i=>Nq i x (Gz x i) (Nm x i) (Fu x i) (Mf x i))) (Lx x x) (AF (λ i=>DU i (UW x) (Of x i x i) (Ha x i) (Mc x i) (Fv x i) (Ln x i))) (AE (SpI.n x)) (RQ (Lh x) (ZE x)) (λ i=>QX i (gZ x) (Lh x) (Cz x) i i) (Wb x) (Wk x) (jT x))) (CE (Ni (Cz x) (rG x)) (AR (AF (λ i=>Ao i (ZE x) (Cz x) (QW (cH x i)) (QS (cH x i)))) (MJ (ZE x)) (Cl x) (Bt x) (Qj x) (Ru x) (Zv x) (Mj x x) (EX (AF (λ i=>Nq i x (Gz x i) (Nm x i) (Fu x i) (Mf x i))) (Lx x x) (AF (λ i=>DU i (UW x) (Of x i x i) (Ha x i) (Mc x i) (Fv x i) (Ln x i))) (AE (SpI.n x)) (RQ (Lh x) (ZE x)) (λ i=>QX i (gZ x) (Lh x) (Cz x) i i) (Wb x) (Wk x) (jT x))) (And (HO (LJ (lV (Kt x x x)) (hY (Kt x x x))) (And (Cl x) (AD (Bt x) (Qj x) (JJ (Ru x) (FR x) (Mj x x) (AF (λ i=>Nq i x (Gz x i) (Nm x i) (Fu x i) (Mf x i))) (Lx x x) (λ i=>DU i (UW x) (Of x i x i) (Ha x i) (Mc x i) (Fv x i) (Ln x i)) (Cl x) (Bt x) (HB (FR x) (HD (lZ x) (FR x)) (λ i=>GA i (lZ x) (Gz x i) (FR x) (Fu x i)) (EZ (UW x) (FR x)) (λ i=>GC i (UW x) (EV (ACN x i) (FR x) i) (Ha x i) (FR x) (Fv x i)) (MJ (lZ x)) (MJ (UW x))))))) (HO (YI (lV (Kt x x x)) (hY (Kt x x x)) LC) (And (RQ (Lh x) (ZE x)) (AG (AF (λ i=>QX i (gZ x) (Lh x) (Cz x) i i)) (Ni (Cz x) (rG x)) (AF (λ i=>Ao i (ZE x) (Cz x) (QW (cH x i)) (QS (cH x i)))) (jT x) (EQ (ZE x)))))) (JH LC (YI (YI (lV (Kt x x x)) (hY (Kt x x x)) LC) (samP (PP2.mk (Lh x) (Cz x))) LC))))))))))) := by kernel_rfl
theorem BOO {c : Cht} (h : bigV c = false) : c.ms.length <= 42 /\ c.ns.length <= 22 := by
 unfold bigV at h
 simp only [Bool.or_eq_false_iff, decide_eq_false_iff_not] at h
 omega
theorem BOZ (c : Cht) : (ZU c).r.length = (ZU c).q.length := by
 have h : (TT c).r.length = (TT c).q.length := (ALK c c.ns.length).2
 unfold ZU dS
 cases AI c == 0 with
 | false => rfl
 | true =>
  cases (IL (fwW c)).2 with
  | false => rfl
  | true => exact h
theorem BWT (c : Cht) (h : c.ns.length <= 22) : (ZU c).q.length <= 22 := by
 have h1 : (TT c).q.length <= c.ns.length := (ALK c c.ns.length).1
 unfold ZU dS
 cases AI c == 0 with
 | false => show 0 <= 22; omega
 | true =>
  cases (IL (fwW c)).2 with
  | false => show 0 <= 22; omega
  | true => show (TT c).q.length <= 22; omega
theorem p_Sp (x : SpI) : V_Sp x := by
 rw [BYW]<;> delta JH zU Hi BI BF EN EB EA BY AF CN CO AS BE EU EC ET GW FK HV IB HK GV FU HC DV FW EY LD Ey LC XS SI GZ CJ DN RU Bq QW QS IE Xg bO Yl Xy cX iS aZ AFY W8 FR rG AD CI AU FT GN AG GK AZ AX AE FA GQ Wq zT YO AW JP BL BD AO AR DD BA VR BK II JQ BO BJ CX BW BV AJ AQ JD AV EH Ag NH CK AN AL JE JO FO MR AM IV FD AJQ AAW ES CG BC IW cH JA CE CW PM EZ CS EV EQ CU FH ARB EW DU LL HR HO X6 FZ GI BN ASN Cz GA GC HD QR Lf QP DY VP PQ MU IS MW ND EX Lh DT GU GR ACN LJ lZ BP Xz SK UJ GF BH LM UW JX uD HB PP ANX MJ IN RQ KS Ao RR M7 MH ZE YI Qs JJ Xb QX Bt Qc Cl ADZ Fu Fv iG gZ Gz Ha YD VI Kt Lx Mj XP Nm Wk Of YW Mf Wb Ni Ln Ve Qg Mc hY Ua gE Qj Ru Zv Jn Nq Bs Ma kI jT lV; simp only [CC, eq_self, implies_true, forall_const, CL]
 simp only [BYA, BOZ, BEB, BBC, bne_self_eq_false, beq_self_eq_true, Bool.and_self, Bool.not_true, cond_false, cond_true, Bool.false_eq_true, false_implies, true_and, and_true, forall_const]
 intro h0
 simp only [Bool.cond_true_left, Bool.or_eq_false_iff, decide_eq_false_iff_not] at h0
 obtain ⟨hB, hz⟩ := h0
 obtain ⟨b1, b2⟩ := BOO hB
 have b3 := BWT x.c b2
 refine ⟨⟨⟨by omega, by omega⟩, by omega⟩, ⟨by omega, by omega⟩, ⟨by omega, by omega⟩, ⟨by omega, by omega⟩, ⟨by omega, by omega⟩, ⟨by omega, by omega⟩, ⟨by omega, by omega⟩, λ he => ?_, λ _ => ⟨⟨by omega, by omega, by omega⟩, ⟨by omega, by omega, by omega, by omega⟩, ⟨by omega, by omega⟩, by omega⟩⟩
 obtain ⟨_, _, _, f1, f2⟩ := BBS (c := x.c) (eq_of_beq he)
 rw [f1, f2]
 exact ⟨⟨by omega, by omega, by omega⟩, λ h => (by cases h), λ _ => ⟨⟨by omega, by omega, by omega, by omega⟩, λ h => (by cases h), λ _ => ⟨⟨by omega, by omega, by omega⟩, ⟨by omega, by omega, by omega, by omega⟩, ⟨by omega, by omega⟩, by omega⟩⟩⟩
theorem CBS (x : SpI) : FnT Try.prog ARU (xSp x) (AB []) (.bool true) [] := Pn (A := A_Sp) (L := []) (keep := []) (ren := []) (fz := []) BBT (by kernel_rfl) (AA BVQ (AA BLK (AA BWJ (AA BWI (AA BXM (AA BNY (AA BFZ (AA AQL (AA BWH (AA AQP (AA BAH (AA BOJ (AA BWB (AA AYO (AA AYZ (AA BYF AC)))))))))))))))) (p_Sp x)
end Go.Bal
