/- Package chart: times. -/
import Derived.Test.YtdbjalgfomknhaaGreatChD2
set_option linter.unusedVariables false
set_option linter.unusedSimpArgs false
namespace Go.Bal
open Go Go.Sym Go.Proofs
def IL (w : Dk) : List Span × Bool := bif Hq w.c then (Fg w (Sz w.c), (Fg w (Sz w.c)).all He) else ([], false)
def C_times : Ctr := { ro := [100, 101], α := Dk, xs := λ _ => [.bptr 100 0], L := λ w => dkL w, val := λ w => .tup [.d (DC (IL w).1), .bool (IL w).2], keep := λ w => dkK w, pre := λ w => [1 <= w.c.ms.length /\ w.c.ms.length <= 40 /\ nsIn w.c] }
def AXO : Ann := { ann 19 [(AQI, C_all.spec T1), (AOB, C_not.spec T1), (Vv, C_nar.spec dDkS)] with E := [100, 101] }
def BAW (w : Dk) : Prop := CF Try.prog AXO ALE (AH ALE) (C_times.xs w) (AB (C_times.L w)) (C_times.val w) (C_times.keep w) [] []
abbrev kQ:=@Prod.fst (List Span) Bool
abbrev Xd:=IL
abbrev Pd:=@Prod.snd (List Span) Bool
abbrev Ys a:=Af (Up a)
abbrev Fw a:=kQ (Xd a)
abbrev PN a b (c:Nat->Prop) d e f g h p:=GU (HM a) b c d e f g h p
abbrev Ek a:=Bz a (EL a)
abbrev HX a b c:=HO a (HF b c)
attribute [go_sem] kQ Xd Pd Ys Fw PN Ek HX
theorem BHD (w : Dk) : (BAW w) = (BC (QG w) (AG (QL w) (SS w) (TO w) (TR w) (MP (BP (AP w)) (λ i=>BH i (AP w)) (BN (AP w)) (λ i=>BG i (AP w)) (IY w) BQ (λ i=>LU (AP w) i) (GT w) (AR (FM (AP w)) (QG w) (QL w) (SS w) (TO w) (TR w) (FI (AP w)) (IA (AP w)) (JY (FJ (AP w)) (λ i=>CQ i (AP w)) (IY w) (HP (AP w)) (GT w) (λ i=>LN (AP w) i) (WW (AP w)) (SO (AP w)))))) (EC (not (cY (Ji w))) (Sa (Mr (Fw w)) (GR (Pd (Xd w))) (QG w) (AG (QL w) (SS w) (TO w) (TR w) (Qz w w))) (BC (QG w) (AG (QL w) (SS w) (TO w) (TR w) (MP (BP (AP w)) (λ i=>BH i (AP w)) (BN (AP w)) (λ i=>BG i (AP w)) (IY w) BQ (λ i=>LU (AP w) i) (GT w) (AR (FM (AP w)) (QG w) (QL w) (SS w) (TO w) (TR w) (FI (AP w)) (IA (AP w)) (JY (FJ (AP w)) (λ i=>CQ i (AP w)) (IY w) (HP (AP w)) (GT w) (λ i=>LN (AP w) i) (AD (WW (AP w)) (SO (AP w)) (EK (λ i=>HX (Bw (AP w) i) i (EH (AP w))))) (CW (Ek (Up (Ji w))) (λ i=>PG i (Up (Ji w)) i) (QG w) (QL w) (SS w) (TO w) (TR w) (BP (AP w)) (PN (AP w) (BN (AP w)) (λ i=>BG i (AP w)) (IY w) BQ (NJ (AP w)) (GT w) (FM (AP w)) (LX (AP w) (CW (JS (AP w)) (λ i=>NB i w) BQ (HP (AP w)) (GT w) (SC (AP w)) (ND (KZ (Up (Ji w))) (AP w)) (WW (AP w)) (SO (AP w)))))))))) (CW (KU (Fw w) (Ya (Kr (AP w) w) (Ys (Ji w)))) (λ i=>PL i (Fw w) (KA (Fw w) i) (Ya (Kr (AP w) w) (Ys (Ji w)))) (JH (Pd (Xd w)) (kT (Ya (Kr (AP w) w) (Ys (Ji w))) He)) (QG w) (QL w) (SS w) (TO w) (TR w) (Qz w w))))) := by kernel_rfl
theorem Lv (a : CZ) : CZ.mk a.c a.z = a := rfl
theorem YU (c : Cht) : (Sz c).length = c.ms.length := rng_length _ _
theorem zG : AK Try.prog zN (C_times.spec T1) := VV C_times (λ _ => AXO) [] [] BHX (λ _ => by kernel_rfl) (λ _ => AA AKP (AA BXE (AA AVG AC))) (λ (w : Dk) h => by
 obtain ⟨h1, h2, h3⟩ : 1 <= w.c.ms.length /\ w.c.ms.length <= 40 /\ nsIn w.c := h
 show BAW w; rw [BHD]<;> delta JH Hi BI BF EN EB EA BY EL AF CN CO AS KA BE EU EC FY MN ET GW FK HV IB HK GV FU HC DV FW EY LD Oo kT LC QU EK OK AP LI cY Up Ya kQ Xd Pd AD CI AU FT GN AG GK AZ AX AE FA BM GQ Sa AW JP BL BD AO AR DD BA BK II NC JQ BO BJ CX BW BV AJ AQ NU JD AV EH FC NH CK AN AL LH JE JO HG FX FQ FO MR AM IV FD Db HE Xx DK ID DR ES BX CG OX BC PI IW HS DX JA rD CW EZ BQ Kq OJ CS XE EV WP CU PX FH Af HQ EW DU Kr Fa HO GT FZ GI BN NB GA GC EO HD VM KZ PF IY SX PQ MP Ff Bw MU IS ND MC NM Hp Jv PO OW GU GR HF BP FJ FI MX EI UJ OE BH BG IP PR VZ KT YM YJ LU HY ZQ ZY HX XZ CQ GD NE WH Fw KU HP YB QL HM PL TA XT QG SS IA LR ZW FM NJ TO LN JS TR Qc Mr Ji Bz Io WW SO SC PG LX JY Ys Ek PN Qz; simp only [CC, eq_self, implies_true, forall_const, CL, Ws]
 refine ⟨⟨h1, h2⟩, λ h => ?_, λ h => ⟨⟨⟨h1, h2, h3⟩, YU _, h1, h2⟩, ?_⟩⟩
 ·unfold IL; rw [h]; exact ⟨rfl, rfl, rfl⟩
 ·unfold IL; rw [h]; exact ⟨rfl, λ _ _ => ⟨rfl, rfl⟩, rfl⟩) (λ _ => WY rfl rfl) _
def ER (a : CZ) : Int := bif AI a.c == 0 then bif V6 a then bif (IL (KB a)).2 then 0 else 6 else 2 else AI a.c
def C_rdO : Ctr := { α := CZ, xs := xCZ, val := λ a => .tup [.bptr 0 0, .d (DC (IL (KB a)).1), .d (DC (Et a.c)), .int 0], keep := λ a => dkN (KB a), pre := λ a => [(a.c.ms.length < 4611686018427387904 /\ a.c.ns.length < 4611686018427387904 /\ a.z.length < 4611686018427387904) /\ ER a = 0] }
def C_rdX : Ctr := { α := CZ, xs := xCZ, val := λ a => .tup [.d (.v (.pointer none)), .d Ou, .d Ou, .int (ER a)], keep := λ _ => [], pre := λ a => [(a.c.ms.length < 4611686018427387904 /\ a.c.ns.length < 4611686018427387904 /\ a.z.length < 4611686018427387904) /\ ER a ≠ 0] }
def A_rd : Ann := ann 38 [(yR, C_beg.spec dCZ), (zN, C_times.spec T1), (AQI, C_all.spec T1)]
def BTB : Ann := ann 38 [(yR, C_begX.spec dCZ)]
def BTS (a : CZ) : Prop := CF Try.prog A_rd sU (AH sU) (xCZ a) (AB []) (C_rdO.val a) (C_rdO.keep a) [(0, 2032), (1, 2033)] []
abbrev Bq:=CZ.mk
abbrev CH a:=IT (Bq (Ig a a a) (YR a))
abbrev UC a:=Bq (MV a) (YR a)
abbrev Da a:=Jd (UC a)
abbrev fB a:=Fw (Jd a)
abbrev Vj a:=GT (Da a)
abbrev fZ a:=IY (Da a)
abbrev fR a:=AQ (CH a)
abbrev eJ a:=AN (CH a)
abbrev gY a:=AM (CH a)
abbrev eH a:=AL (CH a)
abbrev fP a:=AJ (CH a)
abbrev SG a:=AD (WE a) (WV a) (WX a)
abbrev SV a b:=AF (λ i=>RO i a b)
abbrev Jr a b:=SV a (GB b)
abbrev Hc a:=AQ (GB a)
abbrev Gf a:=AN (GB a)
abbrev Gl a:=AM (GB a)
attribute [go_sem] Bq CH UC Da fB Vj fZ fR eJ gY eH fP SG SV Jr Hc Gf Gl
theorem BYR (a : CZ) : (BTS a) = (EG (XQ a) (VH a) (Gl a) (Gf a) (HR (Hc a) (US a a) (Jr a a) (UM a a) (λ i=>UN i a i a i i) (MK a) (λ i=>MO i a) (SG a) (Gv a)) (Bs (MH (Ul (UC a))) KG (DT (fP a) (eH a) (gY a) (eJ a) (fR a) (BP (CH a)) (PN (CH a) (BN (CH a)) (λ i=>BG i (CH a)) (fZ a) BQ (NJ (CH a)) (Vj a) (FM (CH a)) (LX (CH a) (CW (JS (CH a)) (λ i=>NB i (Da a)) BQ (HP (CH a)) (Vj a) (SC (CH a)) (WW (CH a)) (SO (CH a)) (EK (λ i=>HX (Bw (CH a) i) i (EH (CH a)))))))) (EC (not (Pd (Xd (Kr (CH a) (Da a))))) KG (BC (fP a) (AG (eH a) (gY a) (eJ a) (fR a) (MP (BP (CH a)) (λ i=>BH i (CH a)) (BN (CH a)) (λ i=>BG i (CH a)) (fZ a) BQ (λ i=>LU (CH a) i) (Vj a) (AR (FM (CH a)) (fP a) (eH a) (gY a) (eJ a) (fR a) (FI (CH a)) (IA (CH a)) (JY (FJ (CH a)) (λ i=>CQ i (CH a)) (fZ a) (HP (CH a)) (Vj a) (λ i=>LN (CH a) i) (WW (CH a)) (SO (CH a)))))) (HU (KU (fB a) (Fw (Kr (CH a) (Da a)))) (λ i=>PL i (fB a) (KA (fB a) i) (Fw (Kr (CH a) (Da a)))) (CW (KU (Aq (GB a)) (Aq (CU (CH a)))) (λ i=>MX i (Aq (GB a)) (Rz (GB a) i) (Rz (CU (CH a)) i)) DJ (Bm (IT a) (CH a)) (Ap (IT a) (CH a)) (Cg (IT a) (CH a)) (Bd (IT a) (CH a)) (Ci (IT a) (CH a)) (PO (Bi (IT a) (CH a)) (λ i=>XX i (IT a) (BV (CH a) i) (CH a) i) (An (IT a) (CH a)) (λ i=>YG i (IT a) (WC (IT a) i (CH a) i) i (BD (CH a) i) (BK (CH a) i)) (AF (λ i=>Gt i (LI (Jd a) i) (LI (Da a) i))) BQ (λ i=>Ax (IT a) i (CH a) i) (EK (λ i=>Au (Jd a) i (Da a) i)) (λ i=>NE (NC (IT a) i) (CH a) i (NU (IT a) i) (LH (IT a) i))))))))) := by kernel_rfl
def BEU (a : CZ) : Prop := CF Try.prog A_rd sU (AH sU) (xCZ a) (AB []) (C_rdX.val a) [] [] []
abbrev Cx:=ER
abbrev Si a b c:=Yd a b a c
attribute [go_sem] Cx Si
theorem BNX (a : CZ) : (BEU a) = (EG (XQ a) (VH a) (Gl a) (Gf a) (HR (Hc a) (US a a) (Jr a a) (UM a a) (λ i=>UN i a i a i i) (MK a) (λ i=>MO i a) (SG a) (Gv a)) (ED (MH (Ul (UC a))) Vi (Si AT FG (AS (Cx a) (Ul (UC a)))) (And (DT (fP a) (eH a) (gY a) (eJ a) (fR a) (BP (CH a)) (PN (CH a) (BN (CH a)) (λ i=>BG i (CH a)) (fZ a) BQ (NJ (CH a)) (Vj a) (FM (CH a)) (LX (CH a) (CW (JS (CH a)) (λ i=>NB i (Da a)) BQ (HP (CH a)) (Vj a) (SC (CH a)) (WW (CH a)) (SO (CH a)) (EK (λ i=>HX (Bw (CH a) i) i (EH (CH a)))))))) (ED (not (Pd (Xd (Kr (CH a) (Da a))))) Vi (Si AT FG (Gb (Cx a))) (BC (fP a) (AG (eH a) (gY a) (eJ a) (fR a) (MP (BP (CH a)) (λ i=>BH i (CH a)) (BN (CH a)) (λ i=>BG i (CH a)) (fZ a) BQ (λ i=>LU (CH a) i) (Vj a) (AR (FM (CH a)) (fP a) (eH a) (gY a) (eJ a) (fR a) (FI (CH a)) (IA (CH a)) (JY (FJ (CH a)) (λ i=>CQ i (CH a)) (fZ a) (HP (CH a)) (Vj a) (λ i=>LN (CH a) i) (WW (CH a)) (SO (CH a)))))) KG))))) := by kernel_rfl
def BGB (a : CZ) : Prop := CF Try.prog BTB sU (AH sU) (xCZ a) (AB []) (C_rdX.val a) [] [] []
theorem BLS (a : CZ) : (BGB a) = (EG (XQ a) (VH a) (Gl a) (Gf a) (HR (Hc a) (US a a) (Jr a a) (UM a a) (λ i=>UN i a i a i i) (MK a) (λ i=>MO i a) (SG a) (UV (Mg a))) (ED (MH (Ul (UC a))) Vi (Si AT FG (AS (Cx a) (Ul (UC a)))) KG)) := by kernel_rfl
theorem lI (a : CZ) : Dk.mk a.c (KB a).st (KB a).sp = KB a := rfl
theorem eT {c : Cht} (h : AI c = 0) : nsIn c /\ ∀ n ∈ c.ns, RG n c.ms.length = true := by
 obtain ⟨h1, ⟨h2, h3⟩, h4⟩ := OR h
 have hr : c.ns.all (λ n => RG n c.ms.length) = true := by
  cases hq : c.ns.all (λ n => RG n c.ms.length) with
  | true => rfl
  | false =>
   unfold AI at h
   rw [h1, hq] at h
   cases hm : (iZ (-1) c.ms != 0) with
   | true =>
    rw [hm] at h
    have h : iZ (-1) c.ms = 0 := h
    rw [h] at hm; cases hm
   | false => rw [hm] at h; cases h
 refine ⟨λ j hj => ?_, λ n hn => List.all_eq_true.1 hr n hn⟩
 unfold hasN at hj
 obtain ⟨x, hx, e⟩ := List.any_eq_true.1 hj
 have e : x.mi = j := by simpa using e
 have := List.all_eq_true.1 hr x hx
 unfold RG TD wr at this
 rw [TC (by omega) (by omega)] at this
 simp only [Bool.and_eq_true, decide_eq_true_eq] at this
 omega
theorem xT {a : CZ} (h : ER a = 0) : AI a.c = 0 /\ V6 a = true /\ (IL (KB a)).2 = true := by
 unfold ER at h
 cases h1 : (AI a.c == 0) with
 | false => rw [h1] at h; have h : AI a.c = 0 := h; rw [h] at h1; cases h1
 | true =>
  rw [h1] at h
  cases h2 : V6 a with
  | false => rw [h2] at h; cases h
  | true =>
   rw [h2] at h
   cases h3 : (IL (KB a)).2 with
   | false => rw [h3] at h; cases h
   | true => exact ⟨by simpa using h1, rfl, rfl⟩
theorem ANE : AK Try.prog Ux (C_rdO.spec dCZ) := VV C_rdO (λ _ => A_rd) [(0, 2032), (1, 2033)] [] ALP (λ _ => by kernel_rfl) (λ _ => AA BJP (AA zG (AA AKP AC))) (λ (a : CZ) h => by
 obtain ⟨h1, h2⟩ : (a.c.ms.length < 4611686018427387904 /\ a.c.ns.length < 4611686018427387904 /\ a.z.length < 4611686018427387904) /\ ER a = 0 := h
 obtain ⟨c0, c1, c2⟩ := xT h2
 have e : N9 a = 0 := by unfold N9; rw [c0, c1]; rfl
 have hl := OR c0
 have hn := (eT c0).1
 show BTS a; rw [BYR]<;> delta JH BI BF EN EB EA BY EL AF CN CO AS KA BE XB EU EC FY MN ET GW FK HV IB HK GV FU HC DV FW EY LD LC SI KG QU EK OK AP CJ DN LI GB RU LO Ul Jd Aq kQ Xd Pd Bq AD CI AU FT GN AG GK IT AZ AX UB AE FA GQ AW JP It BL BD AO AR DD BA VR BK II NC JQ BO BJ CX BW BV AJ AQ NU JD AV EH Iv YR NH CK AN AL LH JE JO FX FQ FO Ig MR AM IV FD Db DK ES BX CG OX BC PI IW JA rD CW PM EZ BQ Kq OJ Kb CS XE EV WP EQ CU MV CH FH EW DU Kr LL Rz HR HO Br GT FZ GI BN UC NB GA GC HD VM QR PF IY IM QP DY SX PQ MP Ff Bw Ij MU IS MW ND MC UD NM Hp PO Kx DT LB OW DJ GU Da HF BP FJ FI MX SK UJ GF BH BG IP VZ KT YM YJ YG LU HY ZQ ZY EG HX XZ CQ GD NE WH Fw KU OM HP YB OP HM PL XT RR MH XW IA ZW FM HU XO WV NJ MK RO LN JS WX WE Qc MO OO SV VH US WW SO SC UM LX XQ Zc Gv JY WC Bi Tz Bm An Vj Gl Au Ax Ug Ci Gf SG Vq Ap Bd Hc Cg UN PN XX Bs Jr Gt fB fZ gY eH eJ fR fP; simp only [CC, eq_self, implies_true, forall_const, CL, Ws, Rp, Lv, lI, e, c2]
 exact ⟨⟨h1, c0⟩, (λ h => by simp at h), λ _ => ⟨⟨by omega, by omega, hn⟩, (λ h => by cases h), by omega, by omega⟩⟩) (λ _ => WY rfl rfl) _
theorem ALB : AK Try.prog Ux (C_rdX.spec dCZ) := okT C_rdX (λ (a : CZ) h => by
 obtain ⟨h1, h2⟩ : (a.c.ms.length < 4611686018427387904 /\ a.c.ns.length < 4611686018427387904 /\ a.z.length < 4611686018427387904) /\ ER a ≠ 0 := h
 by_cases c0 : AI a.c = 0
 ·have e : N9 a = bif V6 a then 0 else 2 := by unfold N9; rw [c0]; rfl
  have e2 : ER a = bif V6 a then bif (IL (KB a)).2 then 0 else 6 else 2 := by unfold ER; rw [c0]; rfl
  have hl := OR c0
  have hn := (eT c0).1
  refine Pn (A := A_rd) (L := []) (keep := []) (ren := []) (fz := []) ALP (by kernel_rfl) (AA BJP (AA zG (AA AKP AC))) ?_
  show BEU a; rw [BNX]<;> delta JH Hi BI BF EN EB EA BY AF CN CO AS BE EU EC FY MN ET GW FK HV IB HK GV FU HC DV FW EY LD LC SI KG QU EK OK AP CJ DN LI GB RU LO Ul Jd Xd Pd Bq Cx AD CI AU FT GN AG GK IT AZ AX UB AE FA BM GQ Yd Si AW JP It BL BD AO AR DD BA VR BK II NC JQ BO BJ CX BW BV AJ AQ NU JD AV EH Iv YR NH CK AN AL LH JE JO FX FQ FO Ig MR AM IV FD Db DK ES BX CG OX BC PI IW JA rD CW PM EZ BQ Kq Kb CS XE EV WP EQ CU MV CH FH EW AT DU Kr LL ED HR HO Br GT FZ GI BN UC NB GA GC HD VM QR PF IY IM QP DY SX PQ MP Ff Bw Ij MU IS MW ND MC NM Hp Kx DT LB GU Da HF BP FJ FI SK UJ GF BH BG IP VZ KT YM YJ LU HY YF ZQ ZY EG HX FG XZ CQ GD NE OM HP YB OP HM XT RR MH XW IA ZW FM XO WV NJ MK RO LN JS WX WE Qc MO OO SV VH US WW SO SC UM LX XQ Gv JY Vj Gl Gf SG Hc UN PN Jr Gb fZ gY eH Vi eJ fR fP; simp only [CC, eq_self, implies_true, forall_const, CL, Ws, Rp, Lv, lI, e]
  rw [e2] at h2 ⊢
  refine ⟨⟨h1, c0⟩, ?_⟩
  cases ho : V6 a with
  | false => exact ⟨λ _ => rfl, λ h => by simp at h⟩
  | true =>
   rw [ho] at h2
   cases hq : (IL (KB a)).2 with
   | false => exact ⟨λ h => by simp at h, λ _ => ⟨⟨by omega, by omega, hn⟩, λ _ => rfl, λ h => by cases h⟩⟩
   | true => rw [hq] at h2; exact absurd rfl h2
 ·have c0' : (AI a.c == 0) = false := by simpa using c0
  have e : N9 a = AI a.c := by unfold N9; rw [c0']; rfl
  have e2 : ER a = AI a.c := by unfold ER; rw [c0']; rfl
  refine Pn (A := BTB) (L := []) (keep := []) (ren := []) (fz := []) ALP (by kernel_rfl) (AA BLZ AC) ?_
  show BGB a; rw [BLS]<;> delta JH Hi BI BF EN EB EA BY AF CN CO AS EC ET GW FK HV IB HK GV FU HC DV FW EY LD SI KG QU CJ DN GB RU LO Ul Lc Bq Cx AD CI AU FT GN AG GK AZ AX UB AE FA BM GQ Yd Si AW It BL BD AO AR DD BA VR BK JQ BO BJ CX BW BV AJ AQ AV Iv YR CK AN AL FO Ig AM ES CG OX PM EZ Kb EV EQ MV FH EW AT DU LL ED HR Br FZ GI UC GA GC QR QP DY Ij MW Kx SK GF YF EG FG OM OP RR MH XW XO WV MK RO WX WE MO OO SV VH US UM XQ Mg UV Gl Gf SG Hc UN Jr Vi; simp only [CC, eq_self, implies_true, forall_const, CL, Lv, e, e2]
  simp [h1, c0]) _
def dX (a : CZ) : List Span × Int := bif ER a == 0 then ((IL (KB a)).1, 0) else ([], ER a)
def C_Times : Ctr := { α := CZ, xs := xCZ, val := λ a => .tup [.d (DC (dX a).1), .int (dX a).2], keep := λ _ => [], pre := λ a => [a.c.ms.length < 4611686018427387904 /\ a.c.ns.length < 4611686018427387904 /\ a.z.length < 4611686018427387904] }
def BRL : Ann := ann 20 [(Ux, C_rdO.spec dCZ)]
def BTK : Ann := ann 20 [(Ux, C_rdX.spec dCZ)]
def BRR (a : CZ) : Prop := CF Try.prog BRL zQ (AH zQ) (xCZ a) (AB []) (.tup [.d (DC (IL (KB a)).1), .int 0]) [] [] []
abbrev Gs a:=Fw (Da a)
abbrev Ba a:=Cx (UC a)
attribute [go_sem] Gs Ba
theorem BVP (a : CZ) : (BRR a) = (EG (XQ a) (VH a) (Gl a) (Gf a) (HR (Hc a) (US a a) (Jr a a) (UM a a) (λ i=>UN i a i a i i) (MK a) (λ i=>MO i a) (SG a) (IM (Ba a))) (HU (KU (fB a) (Gs a)) (λ i=>PL i (fB a) (KA (fB a) i) (Gs a)) DJ)) := by kernel_rfl
def BTV (a : CZ) : Prop := CF Try.prog BTK zQ (AH zQ) (xCZ a) (AB []) (.tup [.d (DC nilS), .int (ER a)]) [] [] []
theorem BVZ (a : CZ) : (BTV a) = (EG (XQ a) (VH a) (Gl a) (Gf a) (HR (Hc a) (US a a) (Jr a a) (UM a a) (λ i=>UN i a i a i i) (MK a) (λ i=>MO i a) (SG a) (UV (Ba a))) (YO AT (AS (Cx a) (Ba a)))) := by kernel_rfl
theorem BHY : AK Try.prog APG (C_Times.spec dCZ) := okT C_Times (λ (a : CZ) h => by
 have h1 : a.c.ms.length < 4611686018427387904 /\ a.c.ns.length < 4611686018427387904 /\ a.z.length < 4611686018427387904 := h
 by_cases c0 : ER a = 0
 ·have e : C_Times.val a = .tup [.d (DC (IL (KB a)).1), .int 0] := by
   show AVal.tup [.d (DC (dX a).1), .int (dX a).2] = _
   unfold dX; rw [c0]; rfl
  rw [e]
  refine Pn (A := BRL) (L := []) (keep := []) (ren := []) (fz := []) AQY (by kernel_rfl) (AA ANE AC) ?_
  show BRR a; rw [BVP]<;> delta BI BF EN EB EA BY EL AF CN CO AS KA XB ET GW FK HV IB HK GV FU HC DV FW EY LD CJ DN GB RU LO Jd kQ Xd Bq Cx AD CI AU FT GN AG GK AZ AX UB AE FA AW It BL BD AO AR DD BA VR BK JQ BO BJ CX BW BV AJ AQ AV Iv YR CK AN AL FO Ig AM ES CG PM EZ OJ Kb EV EQ MV FH EW DU LL HR Br FZ GI UC GA GC QR IM QP DY Ij MW UD Kx OW DJ Da MX SK GF EG WH Fw KU OM OP PL RR XW HU XO WV Ba MK RO WX WE MO OO SV VH US UM Gs XQ Gl Gf SG Hc UN Jr fB; simp only [CC, eq_self, implies_true, forall_const, CL, Lv]
  simp [h1, c0]
 ·have c0' : (ER a == 0) = false := by simpa using c0
  have e : C_Times.val a = .tup [.d (DC nilS), .int (ER a)] := by
   show AVal.tup [.d (DC (dX a).1), .int (dX a).2] = _
   unfold dX; rw [c0']; rfl
  rw [e]
  refine Pn (A := BTK) (L := []) (keep := []) (ren := []) (fz := []) AQY (by kernel_rfl) (AA ALB AC) ?_
  show BTV a; rw [BVZ]<;> delta BI BF EN EB EA BY AF CN CO AS ET GW FK HV IB HK GV FU HC DV FW EY LD CJ DN GB RU LO Lc Bq Cx AD CI AU FT GN AG GK AZ AX UB AE FA BM YO AW It BL BD AO AR DD BA VR BK JQ BO BJ CX BW BV AJ AQ AV Iv YR CK AN AL FO Ig AM ES CG PM EZ Kb EV EQ MV FH EW AT DU LL HR Br FZ GI UC GA GC QR QP DY Ij MW Kx SK GF EG OM OP RR XW XO WV Ba MK RO WX WE MO OO SV VH US UM XQ UV Gl Gf SG Hc UN Jr; simp only [CC, eq_self, implies_true, forall_const, CL, Lv]
  simp [h1, c0, nilS]) _
end Go.Bal
