/- Package chart: times. -/
import Derived.Test.YtdbjalgfomknhaaGreatChD2
set_option linter.unusedVariables false
set_option linter.unusedSimpArgs false
namespace Go.Bal
open Go Go.Sym Go.Proofs
def IA (w : Dk) : List Span × Bool := bif Hf w.c then (YW w (Gt w.c), (YW w (Gt w.c)).all Fa) else ([], false)
def C_times : Ctr := { ro := [100, 101], α := Dk, xs := λ _ => [.bptr 100 0], L := λ w => dkL w, val := λ w => .tup [.d (DA (IA w).1), .bool (IA w).2], keep := λ w => dkK w, pre := λ w => [1 <= w.c.ms.length /\ w.c.ms.length <= 40 /\ nsIn w.c] }
def AQR : Ann := { ann 19 [(AJD, C_all.spec xG), (AFS, C_not.spec xG), (So, C_nar.spec dDkS)] with E := [100, 101] }
def AQG (w : Dk) : Prop := CL Try.prog AQR AHM (AH AHM) (C_times.xs w) (AB (C_times.L w)) (C_times.val w) (C_times.keep w) [] []
abbrev kJ:=@Prod.fst (List Span) Bool
abbrev Sy:=IA
abbrev Vc:=@Prod.snd (List Span) Bool
abbrev Th a:=Gt (Ps a)
abbrev Rm a b:=pN a b b
abbrev Eo a:=kJ (Sy a)
abbrev DO (a:Nat->Prop) b (c:Nat->Prop) d e f g h p:=IY (AC a) b c d e f g h p
abbrev UH a b (c:Nat->Prop) d e:=OX a a a b c d e
abbrev YL a b:=UH a (CA a) (λ i=>EE i a) (BZ a) b
abbrev UJ a b c:=HL a (DQ b c)
attribute [go_sem] kJ Sy Vc Th Rm Eo DO UH YL UJ
theorem BAX (w : Dk) : (AQG w) = (GN (CW (UF w) (TZ w) (XH w) (WJ w) (WS w) (QK (BM (AV w)) (λ i=>AZ i (AV w)) (BK (AV w)) (λ i=>BJ i (AV w)) w BL (λ i=>NW (AV w) i) (λ i=>MC w i) (AR (BT (λ i=>Gs (Nw w i) w i)) (UF w) (TZ w) (XH w) (WJ w) (WS w) (CA (AV w)) (KI (AV w)) (MY (BZ (AV w)) (λ i=>CP i (AV w)) (IB w) (IE (AV w)) (HB w) (λ i=>LA (SW w i) (Nw w i)) (WO (AV w)) (UD (AV w)))))) (not (Wo (Ps w))) (FR (Fe (Eo w)) (Fe (Eo w)) (EU (Vc (Sy w))) (AV w) (Pb w w)) (And (CW (UF w) (TZ w) (XH w) (WJ w) (WS w) (QK (BM (AV w)) (λ i=>AZ i (AV w)) (BK (AV w)) (λ i=>BJ i (AV w)) w BL (λ i=>NW (AV w) i) (λ i=>MC w i) (AR (BT (λ i=>Gs (Nw w i) w i)) (UF w) (TZ w) (XH w) (WJ w) (WS w) (CA (AV w)) (KI (AV w)) (MY (BZ (AV w)) (λ i=>CP i (AV w)) (IB w) (IE (AV w)) (HB w) (λ i=>LA (SW w i) (Nw w i)) (ML (WO (AV w)) (EN (AV w)) 40 (BT (λ i=>UJ (Dj (AV w) i) i (EN (AV w))))) (BY (NA (Th w) (CU (Th w))) (λ i=>MJ i (MQ (Th w)) (PM (Th w)) (Th w)) (UF w) (TZ w) (XH w) (WJ w) (WS w) (BM (AV w)) (DO (λ i=>AZ i (AV w)) (BK (AV w)) (λ i=>BJ i (AV w)) (IB w) BL (PH (AV w)) (HB w) (BT (λ i=>Gs (Nw w i) w i)) (YL (AV w) (BY (UM (AV w)) (λ i=>QZ i w) BL (IE (AV w)) (HB w) (BT (λ i=>LA (SW w i) (Nw w i))) (NA (Th w) (EN (AV w))) (WO (AV w)) (UD (AV w)))))))))) (BY (HO (Eo w) (Xb (Rm (Ps w) w) (PM (Th w)))) (λ i=>MJ i (CU (Eo w)) (Eo w) (Xb (Rm (Ps w) w) (PM (Th w)))) (KY (Vc (Sy w)) (kH (Xb (Rm (Ps w) w) (PM (Th w))) Fa)) (UF w) (TZ w) (XH w) (WJ w) (WS w) (Pb w w)))) := by kernel_rfl
theorem Cg (a : CZ) : CZ.mk a.c a.z = a := rfl
theorem OY (c : Cht) : (Gt c).length = c.ms.length := rng_length _ _
theorem uR : AK Try.prog uX (C_times.spec xG) := XM C_times (λ _ => AQR) [] [] AUF (λ _ => by kernel_rfl) (λ _ => AA ADV (AA BMT (AA AML AD))) (λ (w : Dk) h => by
 obtain ⟨h1, h2, h3⟩ : 1 <= w.c.ms.length /\ w.c.ms.length <= 40 /\ nsIn w.c := h
 show AQG w; rw [BAX]<;> delta KY Aq BA BI FW EX FI CE CU AC BX CM AQ LU BU DH DX HD LS ER GP GA HQ HT HC HR DS GB ED Ak kH IX SX BT PO AV LW Wo Xb kJ Sy Vc AE BG AW EO GJ GI AG GM BF BE CK QU AR CN BD AF JJ CG BC EZ AO CQ GT BS CV JL CY BO CR DD AL KA CF AM AT DM DR DZ GG DW RB AS DJ EG FC Ic AP EY FG FS EN SW Uf DC DB CS HW FV GR JD DF HA RY QW KB LQ FU EM EH FE ET DE GQ BY LP FY FJ pN EV KD DI BL XQ JS Tx JE HY JH LR OK XJ HL ZA JQ OM KV JZ PM DQ MQ BK QZ Rm IT EB MC KF LM OJ MR CW IB MG OX WB LO HB KE KR MO KC OV Dj QS QY QP TR EU BM BZ CA EP FQ UH AZ CH IY JC OC YM JN SI Eo TI GN Nw MM FF RP LA MJ GO KL DO ZH ZJ HO Bv YI EE NW ZI BJ SG IE Ps CP NB XH KI YJ FR UF NA Fe PH TY TZ WJ ML WS WO UM UD UJ Th Gs QK Pb MY YL; simp only [CC, eq_self, implies_true, forall_const, DN, aF]
 refine ⟨⟨h1, h2⟩, λ h => ?_, λ h => ⟨⟨⟨h1, h2, h3⟩, OY _, h1, h2⟩, ?_⟩⟩
 ·unfold IA; rw [h]; exact ⟨rfl, rfl, rfl⟩
 ·unfold IA; rw [h]; exact ⟨rfl, λ _ _ => ⟨rfl, rfl⟩, rfl⟩) (λ _ => YR rfl rfl) _
def DK (a : CZ) : Int := bif AU a.c == 0 then bif okZ a then bif (IA (GX a)).2 then 0 else 6 else 2 else AU a.c
def C_rdO : Ctr := { α := CZ, xs := xCZ, val := λ a => .tup [.bptr 0 0, .d (DA (IA (GX a)).1), .d (DA (WG a.c)), .int 0], keep := λ a => dkN (GX a), pre := λ a => [(a.c.ms.length < 4611686018427387904 /\ a.c.ns.length < 4611686018427387904 /\ a.z.length < 4611686018427387904) /\ DK a = 0] }
def C_rdX : Ctr := { α := CZ, xs := xCZ, val := λ a => .tup [.d (.v (.pointer none)), .d Rv, .d Rv, .int (DK a)], keep := λ _ => [], pre := λ a => [(a.c.ms.length < 4611686018427387904 /\ a.c.ns.length < 4611686018427387904 /\ a.z.length < 4611686018427387904) /\ DK a ≠ 0] }
def A_rd : Ann := ann 38 [(sZ, C_beg.spec dCZ), (uX, C_times.spec xG), (AJD, C_all.spec xG)]
def BKA : Ann := ann 38 [(sZ, C_begX.spec dCZ)]
def BIQ (a : CZ) : Prop := CL Try.prog A_rd rY (AH rY) (xCZ a) (AB []) (C_rdO.val a) (C_rdO.keep a) [(0, 2032), (1, 2033)] []
abbrev CX a:=GS (CZ.mk (Db a a a a) (QX a))
abbrev Rg a b:=QU (CX a) b
abbrev Hh a b:=CZ.mk a (QX b)
abbrev PN a:=Hh (KG a) a
abbrev VA a:=Iz (PN a)
abbrev fX a:=EH (CX a)
abbrev eT a:=Eo (Iz a)
abbrev fU a:=HB (VA a)
abbrev fH a:=AT (CX a)
abbrev dV a:=AS (CX a)
abbrev fF a:=AP (CX a)
abbrev fG a:=AL (CX a)
abbrev eI a:=AM (CX a)
abbrev TG a:=AE (PS a) (QJ a) (PY a)
abbrev RN a b:=AC (λ i=>JW i a b)
abbrev Ji a b:=RN a (FT b)
abbrev Fy a:=AT (FT a)
abbrev Gr a:=AS (FT a)
abbrev Gl a:=AP (FT a)
abbrev Fp a:=AL (FT a)
abbrev Fo a:=AM (FT a)
attribute [go_sem] CX Rg Hh PN VA fX eT fU fH dV fF fG eI TG RN Ji Fy Gr Gl Fp Fo
theorem BMU (a : CZ) : (BIQ a) = (QQ (AG (Fo a) (Fp a) (Gl a) (Gr a) (HJ (Fy a) (RH a) (Ji a a) (VO a a) (λ i=>VI i a a i) (JR a) (λ i=>LJ i a) (TG a) (OO a))) (Ty (PN a)) NG (GN (CI (eI a) (fG a) (fF a) (dV a) (fH a) (BM (CX a)) (DO (λ i=>AZ i (CX a)) (BK (CX a)) (λ i=>BJ i (CX a)) (IB (VA a)) BL (PH (CX a)) (fU a) (BT (λ i=>HZ (CX a) i (Rg a i))) (YL (CX a) (BY (UM (CX a)) (λ i=>QZ i (VA a)) BL (IE (CX a)) (fU a) (BT (λ i=>JU (Rg a i) (CX a) i)) (WO (CX a)) (UD (CX a)) (BT (λ i=>UJ (Dj (CX a) i) i (EN (CX a)))))))) (not (Vc (Sy (Rm (fX a) (VA a))))) NG (AN (CW (eI a) (fG a) (fF a) (dV a) (fH a) (QK (BM (CX a)) (λ i=>AZ i (CX a)) (BK (CX a)) (λ i=>BJ i (CX a)) (VA a) BL (λ i=>NW (CX a) i) (λ i=>MC (VA a) i) (AR (BT (λ i=>HZ (CX a) i (Rg a i))) (eI a) (fG a) (fF a) (dV a) (fH a) (CA (CX a)) (KI (CX a)) (MY (BZ (CX a)) (λ i=>CP i (CX a)) (IB (VA a)) (IE (CX a)) (fU a) (λ i=>JU (Rg a i) (CX a) i) (WO (CX a)) (UD (CX a)))))) (HO (eT a) (Eo (Rm (fX a) (VA a)))) (NU (CU (eT a)) (eT a) (Eo (Rm (fX a) (VA a)))) (BY (HO (TT (FT a)) (TT (fX a))) (λ i=>MJ i (CU (TT (FT a))) (TT (FT a)) (TT (fX a))) AJ (Aw (GS a) (CX a)) (Cj (GS a) (CX a)) (Bb (GS a) (CX a)) (By (GS a) (CX a)) (Bs (GS a) (CX a)) (QP (Bh (GS a) (CX a)) (λ i=>LI i (AW (GS a)) (BO (GS a) i) (CX a) (CF (GS a) i)) (Bu (GS a) (CX a)) (λ i=>FF i (GS a) (XA (GS a) i (CX a) i) (DJ (CX a) i) (XK (GS a) i (CX a) i) (WH (GS a) i (CX a) i) (BG (CX a) i)) (AC (λ i=>Gu i (LW (Iz a) i) (LW (VA a) i))) BL (λ i=>Br (GS a) i (CX a) i) (λ i=>Bl (Iz a) i (VA a) i) (λ i=>LA (QU (GS a) i) (Rg a i))))))) := by kernel_rfl
def ATW (a : CZ) : Prop := CL Try.prog A_rd rY (AH rY) (xCZ a) (AB []) (C_rdX.val a) [] [] []
abbrev Dd:=DK
abbrev Od a b c:=AG a b a b c
abbrev Fv a b:=AQ (Dd a) b
attribute [go_sem] Dd Od Fv
theorem BCN (a : CZ) : (ATW a) = (And (AG (Fo a) (Fp a) (Gl a) (Gr a) (HJ (Fy a) (RH a) (Ji a a) (VO a a) (λ i=>VI i a a i) (JR a) (λ i=>LJ i a) (TG a) (OO a))) (DV (UN (Ty (PN a))) Sv (Od AI GV (Fv a (Ty (PN a)))) (And (CI (eI a) (fG a) (fF a) (dV a) (fH a) (BM (CX a)) (DO (λ i=>AZ i (CX a)) (BK (CX a)) (λ i=>BJ i (CX a)) (IB (VA a)) BL (PH (CX a)) (fU a) (BT (λ i=>HZ (CX a) i (Rg a i))) (YL (CX a) (BY (UM (CX a)) (λ i=>QZ i (VA a)) BL (IE (CX a)) (fU a) (BT (λ i=>JU (Rg a i) (CX a) i)) (WO (CX a)) (UD (CX a)) (BT (λ i=>UJ (Dj (CX a) i) i (EN (CX a)))))))) (DV (not (Vc (Sy (Rm (fX a) (VA a))))) Sv (Od AI GV (Fv a 6)) (And (CW (eI a) (fG a) (fF a) (dV a) (fH a) (QK (BM (CX a)) (λ i=>AZ i (CX a)) (BK (CX a)) (λ i=>BJ i (CX a)) (VA a) BL (λ i=>NW (CX a) i) (λ i=>MC (VA a) i) (AR (BT (λ i=>HZ (CX a) i (Rg a i))) (eI a) (fG a) (fF a) (dV a) (fH a) (CA (CX a)) (KI (CX a)) (MY (BZ (CX a)) (λ i=>CP i (CX a)) (IB (VA a)) (IE (CX a)) (fU a) (λ i=>JU (Rg a i) (CX a) i) (WO (CX a)) (UD (CX a)))))) NG))))) := by kernel_rfl
def AXZ (a : CZ) : Prop := CL Try.prog BKA rY (AH rY) (xCZ a) (AB []) (C_rdX.val a) [] [] []
theorem BFG (a : CZ) : (AXZ a) = (And (AG (Fo a) (Fp a) (Gl a) (Gr a) (HJ (Fy a) (RH a) (Ji a a) (VO a a) (λ i=>VI i a a i) (JR a) (λ i=>LJ i a) (TG a) (XU (Lh a)))) (DV (UN (Ty (PN a))) Sv (Od AI GV (Fv a (Ty (PN a)))) NG)) := by kernel_rfl
theorem jO (a : CZ) : Dk.mk a.c (GX a).st (GX a).sp = GX a := rfl
theorem oD {c : Cht} (h : AU c = 0) : nsIn c /\ ∀ n ∈ c.ns, SP n c.ms.length = true := by
 obtain ⟨h1, ⟨h2, h3⟩, h4⟩ := RA h
 have hr : c.ns.all (λ n => SP n c.ms.length) = true := by
  cases hq : c.ns.all (λ n => SP n c.ms.length) with
  | true => rfl
  | false =>
   unfold AU at h
   rw [h1, hq] at h
   cases hm : (iH (-1) c.ms != 0) with
   | true =>
    rw [hm] at h
    have h : iH (-1) c.ms = 0 := h
    rw [h] at hm; cases hm
   | false => rw [hm] at h; cases h
 refine ⟨λ j hj => ?_, λ n hn => List.all_eq_true.1 hr n hn⟩
 unfold hasN at hj
 obtain ⟨x, hx, e⟩ := List.any_eq_true.1 hj
 have e : x.mi = j := by simpa using e
 have := List.all_eq_true.1 hr x hx
 unfold SP TP wr at this
 rw [Dh (by omega) (by omega)] at this
 simp only [Bool.and_eq_true, decide_eq_true_eq] at this
 omega
theorem SR {a : CZ} (h : DK a = 0) : AU a.c = 0 /\ okZ a = true /\ (IA (GX a)).2 = true := by
 unfold DK at h
 cases h1 : (AU a.c == 0) with
 | false => rw [h1] at h; have h : AU a.c = 0 := h; rw [h] at h1; cases h1
 | true =>
  rw [h1] at h
  cases h2 : okZ a with
  | false => rw [h2] at h; cases h
  | true =>
   rw [h2] at h
   cases h3 : (IA (GX a)).2 with
   | false => rw [h3] at h; cases h
   | true => exact ⟨by simpa using h1, rfl, rfl⟩
theorem AFZ : AK Try.prog Vy (C_rdO.spec dCZ) := XM C_rdO (λ _ => A_rd) [(0, 2032), (1, 2033)] [] AGD (λ _ => by kernel_rfl) (λ _ => AA AVL (AA uR (AA ADV AD))) (λ (a : CZ) h => by
 obtain ⟨h1, h2⟩ : (a.c.ms.length < 4611686018427387904 /\ a.c.ns.length < 4611686018427387904 /\ a.z.length < 4611686018427387904) /\ DK a = 0 := h
 obtain ⟨c0, c1, c2⟩ := SR h2
 have e : C6 a = 0 := by unfold C6; rw [c0, c1]; rfl
 have hl := RA c0
 have hn := (oD c0).1
 show BIQ a; rw [BMU]<;> delta KY BA BI FW EX FI CE CU AC BX CM AQ LU BU WF DH DX HD LS ER GP GA HQ HT HC HR DS GB ED IX TU NG SX BT PO AV BV BQ LW FT SA NM Ty Iz TT kJ Sy Vc AE BG AW EO GJ GI AG SV GM GS NV BF BE UR CK QU AR VB CN BD AF JJ CG EZ AO CQ GT BS CV Dc JL CY BO CR DD AL KA ZB Ao QX Bc Cl CF AM AT DM DR GG DW RB AS DJ EG FC Ic Db AP EY FG FS EN DC CS FV TB GR DF HA RY QW KB LQ FU EM EH KG CX ET GQ AN BY LP NY FY FJ pN EV EJ DI Hh BL MF XQ JS HH LR OK Df XJ HL OM JF KV JZ HJ DQ MT BK PN QZ Rm IT MC KF LM EK OJ MR CW IB OX QV WB LO HB MD KR MO OV Dj Rg QS QY QP TR VA BM BZ CA EP FQ GZ UH LI AZ AJ IY JC OC PF CI UE PU YM JN SU KP RT Eo TI GN FF RP LA NL MJ GO KL VE DO QC OP ZH ZJ HO Bv NQ HZ JR QM EE JW NW ZI YF BJ OO IE JU PY QJ LJ CP PS KI NU UN PH RN RH VO WO QQ UM UD VI UJ Xp Va XK Tp XA WH Bs Bh Wg Fy Aw Bb By Gl Bl Br TG Bu Gr Cj Fo Gu QK Fp eT fU fF Ji fX MY dV YL fH eI fG; simp only [CC, eq_self, implies_true, forall_const, DN, aF, Qx, Cg, jO, e, c2]
 exact ⟨⟨h1, c0⟩, (λ h => by simp at h), λ _ => ⟨⟨by omega, by omega, hn⟩, (λ h => by cases h), by omega, by omega⟩⟩) (λ _ => YR rfl rfl) _
theorem AIE : AK Try.prog Vy (C_rdX.spec dCZ) := okT C_rdX (λ (a : CZ) h => by
 obtain ⟨h1, h2⟩ : (a.c.ms.length < 4611686018427387904 /\ a.c.ns.length < 4611686018427387904 /\ a.z.length < 4611686018427387904) /\ DK a ≠ 0 := h
 by_cases c0 : AU a.c = 0
 ·have e : C6 a = bif okZ a then 0 else 2 := by unfold C6; rw [c0]; rfl
  have e2 : DK a = bif okZ a then bif (IA (GX a)).2 then 0 else 6 else 2 := by unfold DK; rw [c0]; rfl
  have hl := RA c0
  have hn := (oD c0).1
  refine Rc (A := A_rd) (L := []) (keep := []) (ren := []) (fz := []) AGD (by kernel_rfl) (AA AVL (AA uR (AA ADV AD))) ?_
  show ATW a; rw [BCN]<;> delta KY Aq BA BI FW EX FI CE AC BX CM AQ BU DH DX HD LS ER GP GA HQ HT HC HR DS GB ED IX TU NG SX BT PO AV BV BQ LW FT SA NM Ty Iz Sy Vc Dd AE BG AW EO GJ GI AG SV GM GS NV BF BE UR CK QU AR VB CN BD AF JJ CG BC EZ Od AO CQ GT BS CV Dc JL CY BO CR DD AL KA ZB Ao QX Bc Cl CF AM AT DM DR GG DW RB AS DJ EG FC Ic Db AP EY FG FS EN DC CS FV TB GR DF HA RY QW KB LQ FU EH KG CX ET GQ BY LP NY FY FJ pN EV EJ DI Hh BL XQ JS AI HH LR OK Df XJ HL OM JF KV DV HJ DQ MT BK PN QZ Rm IT MC KF LM EK OJ MR CW IB OX QV WB HB MD KR MO OV Dj Rg QS QY TR VA BM BZ CA EP FQ GZ UH LI AZ IY JC PF CI UE PU YM JN SU RT FF LA NL GO KL VE DO QC OP ZH ZJ Ee Bv HZ JR QM EE JW NW ZI YF BJ OO GV IE JU PY QJ LJ CP PS KI UN PH RN RH VO WO UM UD VI UJ Fy Gl TG Gr Fv Fo QK Fp fU fF Ji fX MY dV Sv YL fH eI fG; simp only [CC, eq_self, implies_true, forall_const, DN, aF, Qx, Cg, jO, e]
  rw [e2] at h2 ⊢
  refine ⟨⟨h1, c0⟩, ?_⟩
  cases ho : okZ a with
  | false => exact ⟨λ _ => rfl, λ h => by simp at h⟩
  | true =>
   rw [ho] at h2
   cases hq : (IA (GX a)).2 with
   | false => exact ⟨λ h => by simp at h, λ _ => ⟨⟨by omega, by omega, hn⟩, λ _ => rfl, λ h => by cases h⟩⟩
   | true => rw [hq] at h2; exact absurd rfl h2
 ·have c0' : (AU a.c == 0) = false := by simpa using c0
  have e : C6 a = AU a.c := by unfold C6; rw [c0']; rfl
  have e2 : DK a = AU a.c := by unfold DK; rw [c0']; rfl
  refine Rc (A := BKA) (L := []) (keep := []) (ren := []) (fz := []) AGD (by kernel_rfl) (AA BCW AD) ?_
  show AXZ a; rw [BFG]<;> delta KY Aq BA BI FW EX FI CE AC BX CM AQ DX ER GP GA HQ HT HC HR DS GB ED TU NG SX BV BQ FT SA NM Ty Ow Dd AE BG AW EO GJ GI AG SV GM NV BF BE UR CK AR VB CN BD AF CG BC EZ Od AO CQ BS CV Dc JL CY BO CR AL ZB Ao QX Bc Cl CF AM AT DR AS EG FC Db AP FG CS FV TB DF HA RY FU KG ET NY FY FJ EV EJ Hh AI HH LR OK Df OM DV HJ MT PN EK QV MD GZ LI PF UE PU SU NL VE QC OP Ee JR QM JW YF GV PY QJ LJ PS UN RN RH VO VI Lh Fy XU Gl TG Gr Fv Fo Fp Ji Sv; simp only [CC, eq_self, implies_true, forall_const, DN, Cg, e, e2]
  simp [h1, c0]) _
def iG (a : CZ) : List Span × Int := bif DK a == 0 then ((IA (GX a)).1, 0) else ([], DK a)
def C_Times : Ctr := { α := CZ, xs := xCZ, val := λ a => .tup [.d (DA (iG a).1), .int (iG a).2], keep := λ _ => [], pre := λ a => [a.c.ms.length < 4611686018427387904 /\ a.c.ns.length < 4611686018427387904 /\ a.z.length < 4611686018427387904] }
def BGV : Ann := ann 20 [(Vy, C_rdO.spec dCZ)]
def BHK : Ann := ann 20 [(Vy, C_rdX.spec dCZ)]
def BKH (a : CZ) : Prop := CL Try.prog BGV vV (AH vV) (xCZ a) (AB []) (.tup [.d (DA (IA (GX a)).1), .int 0]) [] [] []
abbrev Gc a:=Eo (VA a)
abbrev Hl a:=JF (Dd a)
attribute [go_sem] Gc Hl
theorem BMV (a : CZ) : (BKH a) = (AN (AG (Fo a) (Fp a) (Gl a) (Gr a) (HJ (Fy a) (RH a) (Ji a a) (VO a a) (λ i=>VI i a a i) (JR a) (λ i=>LJ i a) (TG a) (Hl (PN a)))) (HO (eT a) (Gc a)) (NU (CU (eT a)) (eT a) (Gc a)) AJ) := by kernel_rfl
def BIV (a : CZ) : Prop := CL Try.prog BHK vV (AH vV) (xCZ a) (AB []) (.tup [.d (DA nilS), .int (DK a)]) [] [] []
theorem BOL (a : CZ) : (BIV a) = (And (AG (Fo a) (Fp a) (Gl a) (Gr a) (HJ (Fy a) (RH a) (Ji a a) (VO a a) (λ i=>VI i a a i) (JR a) (λ i=>LJ i a) (TG a) (XU (Dd (PN a))))) (YT AI (Fv a (Dd (PN a))))) := by kernel_rfl
theorem BBA : AK Try.prog AEQ (C_Times.spec dCZ) := okT C_Times (λ (a : CZ) h => by
 have h1 : a.c.ms.length < 4611686018427387904 /\ a.c.ns.length < 4611686018427387904 /\ a.z.length < 4611686018427387904 := h
 by_cases c0 : DK a = 0
 ·have e : C_Times.val a = .tup [.d (DA (IA (GX a)).1), .int 0] := by
   show AVal.tup [.d (DA (iG a).1), .int (iG a).2] = _
   unfold iG; rw [c0]; rfl
  rw [e]
  refine Rc (A := BGV) (L := []) (keep := []) (ren := []) (fz := []) AKC (by kernel_rfl) (AA AFZ AD) ?_
  show BKH a; rw [BMV]<;> delta BA BI FW EX FI CE CU AC BX CM AQ LU WF ER GP GA HQ HT HC HR DS GB ED BV BQ FT SA NM Iz kJ Sy Dd AE BG AW EO GJ GI AG SV GM NV BF BE UR CK AR VB CN BD AF CG AO CQ BS CV Dc JL CY BO CR AL ZB Ao QX Bc Cl CF AM AT DR AS EG FC Db AP FG CS FV TB DF HA FU EM KG ET AN NY FY FJ EV EJ Hh MF HH LR OK Df OM JF JZ HJ MT PN EK QV LO MD VA GZ LI AJ OC PF UE PU SU Eo Hl TI RP NL MJ VE QC OP HO JR QM JW YF PY QJ LJ PS NU RN RH VO Gc VI Fy Gl TG Gr Fo Fp eT Ji; simp only [CC, eq_self, implies_true, forall_const, DN, Cg]
  simp [h1, c0]
 ·have c0' : (DK a == 0) = false := by simpa using c0
  have e : C_Times.val a = .tup [.d (DA nilS), .int (DK a)] := by
   show AVal.tup [.d (DA (iG a).1), .int (iG a).2] = _
   unfold iG; rw [c0']; rfl
  rw [e]
  refine Rc (A := BHK) (L := []) (keep := []) (ren := []) (fz := []) AKC (by kernel_rfl) (AA AIE AD) ?_
  show BIV a; rw [BOL]<;> delta BA BI FW EX FI CE AC BX CM AQ ER GP GA HQ HT HC HR DS GB ED BV BQ FT SA NM Ow Dd AE BG AW EO GJ GI AG SV GM NV BF BE UR CK AR VB CN BD AF CG BC YT AO CQ BS CV Dc JL CY BO CR AL ZB Ao QX Bc Cl CF AM AT DR AS EG FC Db AP FG CS FV TB DF HA FU KG ET NY FY FJ EV EJ Hh AI HH LR OK Df OM HJ MT PN EK QV MD GZ LI PF UE PU SU NL VE QC OP JR QM JW YF PY QJ LJ PS RN RH VO VI Fy XU Gl TG Gr Fv Fo Fp Ji; simp only [CC, eq_self, implies_true, forall_const, DN, Cg]
  simp [h1, c0, nilS]) _
end Go.Bal
