/- Package chart: times. -/
import Derived.Test.YtdbjalgfomknhaaGreatChD2
set_option linter.unusedVariables false
set_option linter.unusedSimpArgs false
namespace Go.Bal
open Go Go.Sym Go.Proofs
def GD (w : Dk) : List Span × Bool := bif ZV w.c then (OH w (XD w.c), (OH w (XD w.c)).all Du) else ([], false)
def C_times : Ctr := { ro := [100, 101], α := Dk, xs := λ _ => [.bptr 100 0], L := λ w => dkL w, val := λ w => .tup [.d (DE (GD w).1), .bool (GD w).2], keep := λ w => dkK w, pre := λ w => [1 <= w.c.ms.length /\ w.c.ms.length <= 40 /\ nsIn w.c] }
def AWF : Ann := { ann 19 [(AIH, C_all.spec Ze), (xN, C_not.spec Ze), (YX, C_nar.spec dDkS)] with E := [100, 101] }
def AUP (w : Dk) : Prop := CH Try.prog AWF zG (AH zG) (C_times.xs w) (AB (C_times.L w)) (C_times.val w) (C_times.keep w) [] []
abbrev mR:=@Prod.fst (List Span) Bool
abbrev Vx:=GD
abbrev Ro:=@Prod.snd (List Span) Bool
abbrev Lb a b:=dC a (Dk.st b) b
abbrev Lc a b c:=OH (Lb a b) c
abbrev XT a b c:=Lc a b (IP c)
abbrev bV a:=XD (DK a)
abbrev Bg a:=bV (AL a)
abbrev QI a:=mR (Vx a)
abbrev NX a b c:=MC (BO a) (λ i=>EE i a) (BE a) (λ i=>CS i a) b (λ i=>RZ a i) c
abbrev OG a b c d:=WZ (DH a) (λ i=>DI i a) b (JI a) (λ i=>TK a i) c d
abbrev Au a b c d e f g h p:=AK a (BE b) (BI c) d e f g h p
abbrev UW a b c d e f g:=Au (BL a) a a b c d e f g
abbrev Hb a b c d e:=UW a b BT (PE a) c d e
abbrev QN a (b:Nat->Prop) c d e f g h p:=DC (RC a) b c d e f g h p
abbrev fV a:=NQ (AL a)
abbrev iX a:=QP (AL a)
abbrev NU a b c:=HF a (CD b c)
abbrev Cx a b c:=NU a b (DQ c)
attribute [go_sem] mR Vx Ro Lb Lc XT bV Bg QI NX OG Au UW Hb QN fV iX NU Cx
theorem BHA (w : Dk) : (AUP w) = (HG (EW (LZ w) (LR w) (NT w) (OD w) (OE w) (NX (AL w) w (AK (Sp w) (LZ w) (LR w) (NT w) (OD w) (OE w) (Tq w) (cY w) (OG (AL w) w (iX w) (fV w))))) (not (Mr (DK (AL w)))) (XA (Lj (QI w)) (EF (Ro (Vx w))) (LZ w) (AF (LR w) (NT w) (OD w) (OE w) (SG (AL w) w))) (And (EW (LZ w) (LR w) (NT w) (OD w) (OE w) (NX (AL w) w (AK (Sp w) (LZ w) (LR w) (NT w) (OD w) (OE w) (Tq w) (cY w) (OG (AL w) w (AE (iX w) (fV w) (EU (λ i=>Cx (TL (AL w) i) i (AL w)))) (DC (JG (Bg w)) (λ i=>PJ i (IP (Bg w)) (Bg w)) (LZ w) (LR w) (NT w) (OD w) (OE w) (BO (AL w)) (Hb (AL w) (LQ w) (GJ w) (Sp w) (CM (LZ w) (LR w) (NT w) (OD w) (OE w) (Tq w) (λ i=>DG i (AL w)) (DH (AL w)) (QN (AL w) (λ i=>KZ i w) BT (JI (AL w)) (GJ w) (JK (AL w)) (LM (NG (Bg w)) (AL w)) (iX w) (fV w))))))))) (DC (II (QI w) (XT (AL w) w (Bg w))) (λ i=>PJ i (QI w) (XT (AL w) w (Bg w))) (Hh (Ro (Vx w)) (XT (AL w) w (Bg w))) (LZ w) (LR w) (NT w) (OD w) (OE w) (SG (AL w) w)))) := by kernel_rfl
theorem WD (a : CZ) : CZ.mk a.c a.z = a := rfl
theorem IS (c : Cht) : (XD c).length = c.ms.length := rng_length _ _
theorem nT : AJ Try.prog Up (C_times.spec Ze) := XP C_times (λ _ => AWF) [] [] ANS (λ _ => by kernel_rfl) (λ _ => AA AFW (AA ASY (AA AEP AC))) (λ (w : Dk) h => by
 obtain ⟨h1, h2, h3⟩ : 1 <= w.c.ms.length /\ w.c.ms.length <= 40 /\ nsIn w.c := h
 show AUP w; rw [BHA]<;> delta KH ZR BG BJ EC ES ET BW ED AD BU CL AR GK BZ DJ EK HO KB EJ GW EX HP HN HJ GT GB HC DU GG FE JW Ef uS JL NY EU MP AL JO Mr mR Vx Ro AE CR FA BB GA AF AY AU RA AG EM EZ BC FD XA AX FC BM CJ AK AN DD BH HX BY BP CX HZ BN CY BS CE QX FU AV DA AQ Jc EV DW AZ LX DQ CP FT AS OT ZW DM AP ID AT EG CN BX NE CM HD CG GP OK FH HV DC Cn CK BT UR EL FV IP DK CD NF EP HW JY DB FN FM dC KZ UV HF VU TL Cs PH EA FQ PZ NG NH GJ LQ BE LI DX FO FZ KL NC GH SV JU IC LM OI SY Bi EW BO DH CQ BK JF GY CS EE EF II TV BI KQ BL EY RZ DG MC UL PN PJ DI SE VI DN HG LR bV RC PE UM QG UG TN HL JI VL LZ WA Lb TK TG XM OD QP QI JK NT OE Lc NQ JG SG NU UY Bg TO Lj XT WZ Au UW Sp NX OG Tq Hb QN Cx Hh fV iX cY; simp only [CC, eq_self, implies_true, forall_const, CU, Rz]
 refine ⟨⟨h1, h2⟩, λ h => ?_, λ h => ⟨⟨⟨h1, h2, h3⟩, IS _, h1, h2⟩, ?_⟩⟩
 ·unfold GD; rw [h]; exact ⟨rfl, rfl, rfl⟩
 ·unfold GD; rw [h]; exact ⟨rfl, λ _ _ => ⟨rfl, rfl⟩, rfl⟩) (λ _ => YS rfl rfl) _
def CF (a : CZ) : Int := bif AM a.c == 0 then bif rX a then bif (GD (CV a)).2 then 0 else 6 else 2 else AM a.c
def C_rdO : Ctr := { α := CZ, xs := xCZ, val := λ a => .tup [.bptr 0 0, .d (DE (GD (CV a)).1), .d (DE (Eg a.c)), .int 0], keep := λ a => dkN (CV a), pre := λ a => [(a.c.ms.length < 4611686018427387904 /\ a.c.ns.length < 4611686018427387904 /\ a.z.length < 4611686018427387904) /\ CF a = 0] }
def C_rdX : Ctr := { α := CZ, xs := xCZ, val := λ a => .tup [.d (.v (.pointer none)), .d Jn, .d Jn, .int (CF a)], keep := λ _ => [], pre := λ a => [(a.c.ms.length < 4611686018427387904 /\ a.c.ns.length < 4611686018427387904 /\ a.z.length < 4611686018427387904) /\ CF a ≠ 0] }
def A_rd : Ann := ann 38 [(Jy, C_beg.spec pZ), (Up, C_times.spec Ze), (AIH, C_all.spec Ze)]
def BQX : Ann := ann 38 [(Jy, C_begX.spec pZ)]
def BPK (a : CZ) : Prop := CH Try.prog A_rd vA (AH vA) (xCZ a) (AB []) (C_rdO.val a) (C_rdO.keep a) [(0, 2032), (1, 2033)] []
abbrev SW:=CZ.mk
abbrev tA a b:=JA (SW a b)
abbrev tF a b:=tA a (Bj b b)
abbrev DY a:=tF (Ue a a a) a
abbrev XB a b:=SW a (PF b)
abbrev kA a b:=RV (XB a b)
abbrev MZ a:=kA (OS a) a
abbrev jS a:=AS (DY a)
abbrev gI a:=AP (DY a)
abbrev iM a:=AQ (DY a)
abbrev WY a b c d:=Hb a b c (HL a) d
abbrev Gl a b c d e (f:Nat->Prop) g h:=CM a b c (AS d) (AV d) e f g h
abbrev Bz a b c d e (f:Nat->Prop) g h:=Gl a (AT b) c d e f g h
abbrev ZD a b (c:Nat->Prop) d e:=Bz (AQ a) a (AP a) a b c d e
abbrev QO a:=XB (OS a) a
abbrev RJ a b c d e (f:Nat->Prop) g h:=CM (AV a) b c d (BI a) e f g h
abbrev VG a b c d e f g:=RJ a b c d (OY e) (λ i=>PC i e) f g
abbrev Bu a b c d e f g:=KO (OC a) (OJ a) b (VG b c d e a f g)
abbrev SP a b c:=AE (DT a) b c
abbrev VB a b c:=SP a (HM b) c
abbrev WF a b c:=VB a b (RS c)
abbrev PU a b c d e f:=Bu a b c d e (WF (VS a) b a) f
attribute [go_sem] SW tA tF DY XB kA MZ jS gI iM WY Gl Bz ZD QO RJ VG Bu SP VB WF PU
theorem BRU (a : CZ) : (BPK a) = (SK (PU a (DO a) (RH a a) (SJ a a) (RK a) (He a)) (RX (QO a)) JV (HG (IR (iM a) (AT (DY a)) (gI a) (jS a) (AV (DY a)) (BO (DY a)) (WY (DY a) (LQ (MZ a)) (GJ (MZ a)) (ZD (DY a) (CQ (DY a)) (λ i=>DG i (DY a)) (DH (DY a)) (QN (DY a) (λ i=>KZ i (MZ a)) BT (JI (DY a)) (GJ (MZ a)) (JK (DY a)) (QP (DY a)) (NQ (DY a)) (EU (λ i=>Cx (TL (DY a) i) i (DY a))))))) (not (Ro (Vx (Lb (DY a) (MZ a))))) JV (AO (EW (iM a) (AT (DY a)) (gI a) (jS a) (AV (DY a)) (NX (DY a) (MZ a) (MJ (HL (DY a)) (iM a) (DY a) (gI a) (jS a) (CQ (DY a)) (DN (DY a)) (OG (DY a) (MZ a) (QP (DY a)) (NQ (DY a)))))) (II (QI (RV a)) (QI (Lb (DY a) (MZ a)))) (JQ (QI (RV a)) (QI (Lb (DY a) (MZ a)))) (DC (II (Dh (DO a)) (Dh (DK (DY a)))) (λ i=>LI i (Dh (DO a)) (Uc (DO a) i) (Uc (DK (DY a)) i)) BQ (TH (JA a) (DY a)) (UC (JA a) (DY a)) (TU (JA a) (DY a)) (UB (JA a) (DY a)) (TC (JA a) (DY a)) (SO (TQ (JA a) (DY a)) (λ i=>UA i (JA a) (DY a) i i) (UK (JA a) (DY a)) (λ i=>DW i (JA a) (TM (JA a) i (DY a) i i i i)) (AD (λ i=>ZA i (RV a) i (JO (MZ a) i))) BT (λ i=>TW (JA a) i (DY a) i) (λ i=>UF (RV a) i (MZ a) i) (λ i=>TR (JA a) i (DY a) i i i)))))) := by kernel_rfl
def BHJ (a : CZ) : Prop := CH Try.prog A_rd vA (AH vA) (xCZ a) (AB []) (C_rdX.val a) [] [] []
abbrev Gb a b c:=XG a b b c
abbrev Gt a b:=AR (CF a) b
attribute [go_sem] Gb Gt
theorem BIV (a : CZ) : (BHJ a) = (And (PU a (DO a) (RH a a) (SJ a a) (RK a) (He a)) (DZ (JZ (RX (QO a))) Xh (Gb AI FW (Gt a (RX (QO a)))) (And (IR (iM a) (AT (DY a)) (gI a) (jS a) (AV (DY a)) (BO (DY a)) (WY (DY a) (LQ (MZ a)) (GJ (MZ a)) (ZD (DY a) (CQ (DY a)) (λ i=>DG i (DY a)) (DH (DY a)) (QN (DY a) (λ i=>KZ i (MZ a)) BT (JI (DY a)) (GJ (MZ a)) (JK (DY a)) (QP (DY a)) (NQ (DY a)) (EU (λ i=>Cx (TL (DY a) i) i (DY a))))))) (DZ (not (Ro (Vx (Lb (DY a) (MZ a))))) Xh (Gb AI FW (Gt a 6)) (And (EW (iM a) (AT (DY a)) (gI a) (jS a) (AV (DY a)) (NX (DY a) (MZ a) (MJ (HL (DY a)) (iM a) (DY a) (gI a) (jS a) (CQ (DY a)) (DN (DY a)) (OG (DY a) (MZ a) (QP (DY a)) (NQ (DY a)))))) JV))))) := by kernel_rfl
def AZP (a : CZ) : Prop := CH Try.prog BQX vA (AH vA) (xCZ a) (AB []) (C_rdX.val a) [] [] []
theorem BJT (a : CZ) : (AZP a) = (And (PU a (DO a) (RH a a) (SJ a a) (RK a) (RO (Pt a))) (DZ (JZ (RX (QO a))) Xh (Gb AI FW (Gt a (RX (QO a)))) JV)) := by kernel_rfl
theorem Mb (a : CZ) : Dk.mk a.c (CV a).st (CV a).sp = CV a := rfl
theorem Qu {c : Cht} (h : AM c = 0) : nsIn c /\ ∀ n ∈ c.ns, RF n c.ms.length = true := by
 obtain ⟨h1, ⟨h2, h3⟩, h4⟩ := IX h
 have hr : c.ns.all (λ n => RF n c.ms.length) = true := by
  cases hq : c.ns.all (λ n => RF n c.ms.length) with
  | true => rfl
  | false =>
   unfold AM at h
   rw [h1, hq] at h
   cases hm : (fP (-1) c.ms != 0) with
   | true =>
    rw [hm] at h
    have h : fP (-1) c.ms = 0 := h
    rw [h] at hm; cases hm
   | false => rw [hm] at h; cases h
 refine ⟨λ j hj => ?_, λ n hn => List.all_eq_true.1 hr n hn⟩
 unfold hasN at hj
 obtain ⟨x, hx, e⟩ := List.any_eq_true.1 hj
 have e : x.mi = j := by simpa using e
 have := List.all_eq_true.1 hr x hx
 unfold RF KT wr at this
 rw [Bc (by omega) (by omega)] at this
 simp only [Bool.and_eq_true, decide_eq_true_eq] at this
 omega
theorem Qs {a : CZ} (h : CF a = 0) : AM a.c = 0 /\ rX a = true /\ (GD (CV a)).2 = true := by
 unfold CF at h
 cases h1 : (AM a.c == 0) with
 | false => rw [h1] at h; have h : AM a.c = 0 := h; rw [h] at h1; cases h1
 | true =>
  rw [h1] at h
  cases h2 : rX a with
  | false => rw [h2] at h; cases h
  | true =>
   rw [h2] at h
   cases h3 : (GD (CV a)).2 with
   | false => rw [h3] at h; cases h
   | true => exact ⟨by simpa using h1, rfl, rfl⟩
theorem ABY : AJ Try.prog Pm (C_rdO.spec pZ) := XP C_rdO (λ _ => A_rd) [(0, 2032), (1, 2033)] [] AIY (λ _ => by kernel_rfl) (λ _ => AA J1 (AA nT (AA AFW AC))) (λ (a : CZ) h => by
 obtain ⟨h1, h2⟩ : (a.c.ms.length < 4611686018427387904 /\ a.c.ns.length < 4611686018427387904 /\ a.z.length < 4611686018427387904) /\ CF a = 0 := h
 obtain ⟨c0, c1, c2⟩ := Qs h2
 have e : MO a = 0 := by unfold MO; rw [c0, c1]; rfl
 have hl := IX c0
 have hn := (Qu c0).1
 show BPK a; rw [BRU]<;> delta KH BG BJ EC ES ET BW ED AD BU CL AR GK BZ SC DJ EK HO KB EJ GW EX HP HN HJ GT GB HC DU GG FE JW FP FK VV JL PW NJ JV NY EU MP AL JO DO LY RX RV Dh mR Vx Ro SW AE CR FA BB JA GA AF PX AY AU SX RA AG EM EZ FD AX FC BM CJ AK Gg AN DD tA BH HX BY XN BP CX Bj HZ BN CY BS CE QX FU AV DA AQ EV DW AZ PF tF LX DQ CP FT AS OT ZW DM Ji AP ID AT EG CN NE CM Ue IY GP OK EN FH HV AO DC Cn CK DT BT UR EL FV DK CD OS DY EP HW JY DB FN CB FM dC KZ XB UV HF TL ML Uc Cs PH EA MB FQ PZ kA NH VS GJ LQ BE LI Mx FO FZ LL KL NC GH SV JU BQ IC LM OI SY Bi EW Ja IQ BO DH CQ OB VM GY CS EE FI II TV KP BI BL EY RZ DG MC UL PN HM OJ PJ DI SE VI OC MY DN HG NN RC PE KO MZ QO MV UM QG UG TN JQ HL JI VL JZ Lb TK QP QI JK RS SP NQ OY PC WP IR NU VB OX WF RK Gl Bz TO RH XR Ns SJ Mh RJ WZ Au Kq TC TQ UK Mc TH UB UF TW TU MJ ZD UW VG UC SK He Gx Lv UA Td ZA NX OG Hb SO QN TR Hq TM Bu Cx gI jS WY PU iM; simp only [CC, eq_self, implies_true, forall_const, CU, Rz, Ev, WD, Mb, e, c2]
 exact ⟨⟨h1, c0⟩, (λ h => by simp at h), λ _ => ⟨⟨by omega, by omega, hn⟩, (λ h => by cases h), by omega, by omega⟩⟩) (λ _ => YS rfl rfl) _
theorem ABG : AJ Try.prog Pm (C_rdX.spec pZ) := okT C_rdX (λ (a : CZ) h => by
 obtain ⟨h1, h2⟩ : (a.c.ms.length < 4611686018427387904 /\ a.c.ns.length < 4611686018427387904 /\ a.z.length < 4611686018427387904) /\ CF a ≠ 0 := h
 by_cases c0 : AM a.c = 0
 ·have e : MO a = bif rX a then 0 else 2 := by unfold MO; rw [c0]; rfl
  have e2 : CF a = bif rX a then bif (GD (CV a)).2 then 0 else 6 else 2 := by unfold CF; rw [c0]; rfl
  have hl := IX c0
  have hn := (Qu c0).1
  refine Hp (A := A_rd) (L := []) (keep := []) (ren := []) (fz := []) AIY (by kernel_rfl) (AA J1 (AA nT (AA AFW AC))) ?_
  show BHJ a; rw [BIV]<;> delta KH ZR BG BJ EC ES ET BW AD BU CL AR BZ DJ EK HO KB EJ GW EX HP HN HJ GT GB HC DU GG FE JW FP FK VV JL PW NJ JV NY EU MP AL JO DO LY RX RV Vx Ro SW AE CR FA BB JA GA AF PX AY AU SX RA AG EM EZ BC FD XG Gb AX FC BM CJ AK Gg AN DD tA BH HX BY XN BP CX Bj HZ BN CY BS CE QX FU AV DA AQ EV DW AZ PF tF LX DQ CP FT AS OT ZW DM Ji AP ID AT EG CN NE CM Ue IY GP OK EN FH HV AI DC Cn CK DT BT UR EL FV DK CD OS DY EP HW DB FN CB FM dC KZ XB UV HF TL DZ Cs PH EA MB FQ PZ kA NH VS GJ LQ BE FO FZ LL KL NC GH SV IC LM OI SY Bi EW Ja IQ BO DH CQ OB VM GY CS EE FI TV KP BI BL RZ DG MC UL FW HM OJ DI SE VI OC MY DN NN RC PE KO MZ QO MV UM QG UG TN HL JI VL JZ Lb TK QP JK RS SP NQ OY PC WP IR NU VB OX WF RK Gl Bz TO RH XR SJ RJ WZ Au MJ ZD UW VG He NX OG Gt Hb QN Bu Cx gI jS Xh WY PU iM; simp only [CC, eq_self, implies_true, forall_const, CU, Rz, Ev, WD, Mb, e]
  rw [e2] at h2 ⊢
  refine ⟨⟨h1, c0⟩, ?_⟩
  cases ho : rX a with
  | false => exact ⟨λ _ => rfl, λ h => by simp at h⟩
  | true =>
   rw [ho] at h2
   cases hq : (GD (CV a)).2 with
   | false => exact ⟨λ h => by simp at h, λ _ => ⟨⟨by omega, by omega, hn⟩, λ _ => rfl, λ h => by cases h⟩⟩
   | true => rw [hq] at h2; exact absurd rfl h2
 ·have c0' : (AM a.c == 0) = false := by simpa using c0
  have e : MO a = AM a.c := by unfold MO; rw [c0']; rfl
  have e2 : CF a = AM a.c := by unfold CF; rw [c0']; rfl
  refine Hp (A := BQX) (L := []) (keep := []) (ren := []) (fz := []) AIY (by kernel_rfl) (AA ANF AC) ?_
  show AZP a; rw [BJT]<;> delta KH ZR BG BJ EC ES ET BW AD BU CL AR EK EJ GW EX HP HN HJ GT GB HC DU GG FE JW FP FK VV PW NJ JV NY DO LY RX Jf SW AE CR FA BB GA AF PX AY AU SX AG EM EZ BC FD XG Gb AX FC BM CJ AK Gg AN DD BH HX BY XN BP CX Bj HZ BN CY BS CE FU AV DA AZ PF CP FT AS Ji AP EG NE CM Ue IY EN AI DT EL FV OS EP DB FN CB FM XB DZ EA MB FQ VS BE FO FZ LL GH Ja OB VM CS FI BI FW HM OJ OC MY NN KO QO MV JZ RS SP OY PC WP VB OX WF RK RH SJ RJ RO VG Pt Gt Bu Xh PU; simp only [CC, eq_self, implies_true, forall_const, CU, WD, e, e2]
  simp [h1, c0]) _
def Mt (a : CZ) : List Span × Int := bif CF a == 0 then ((GD (CV a)).1, 0) else ([], CF a)
def C_Times : Ctr := { α := CZ, xs := xCZ, val := λ a => .tup [.d (DE (Mt a).1), .int (Mt a).2], keep := λ _ => [], pre := λ a => [a.c.ms.length < 4611686018427387904 /\ a.c.ns.length < 4611686018427387904 /\ a.z.length < 4611686018427387904] }
def BQT : Ann := ann 20 [(Pm, C_rdO.spec pZ)]
def BQQ : Ann := ann 20 [(Pm, C_rdX.spec pZ)]
def BNW (a : CZ) : Prop := CH Try.prog BQT zE (AH zE) (xCZ a) (AB []) (.tup [.d (DE (GD (CV a)).1), .int 0]) [] [] []
abbrev ZC a:=CF (QO a)
attribute [go_sem] ZC
theorem BUK (a : CZ) : (BNW a) = (AO (PU a (DO a) (RH a a) (SJ a a) (RK a) (IQ (ZC a))) (II (QI (RV a)) (QI (MZ a))) (JQ (QI (RV a)) (QI (MZ a))) BQ) := by kernel_rfl
def BQU (a : CZ) : Prop := CH Try.prog BQQ zE (AH zE) (xCZ a) (AB []) (.tup [.d (DE nilS), .int (CF a)]) [] [] []
theorem BRP (a : CZ) : (BQU a) = (And (PU a (DO a) (RH a a) (SJ a a) (RK a) (RO (ZC a))) (Sf (Gt a (ZC a)))) := by kernel_rfl
theorem AOH : AJ Try.prog AAJ (C_Times.spec pZ) := okT C_Times (λ (a : CZ) h => by
 have h1 : a.c.ms.length < 4611686018427387904 /\ a.c.ns.length < 4611686018427387904 /\ a.z.length < 4611686018427387904 := h
 by_cases c0 : CF a = 0
 ·have e : C_Times.val a = .tup [.d (DE (GD (CV a)).1), .int 0] := by
   show AVal.tup [.d (DE (Mt a).1), .int (Mt a).2] = _
   unfold Mt; rw [c0]; rfl
  rw [e]
  refine Hp (A := BQT) (L := []) (keep := []) (ren := []) (fz := []) AON (by kernel_rfl) (AA ABY AC) ?_
  show BNW a; rw [BUK]<;> delta BG BJ EC ES ET BW ED AD BU CL AR GK SC EJ GW EX HP HN HJ GT GB HC DU GG FE JW FP FK VV DO LY RV mR Vx SW AE CR FA BB GA AF PX AY AU SX AG EM EZ AX FC BM CJ AK Gg AN DD BH HX BY XN BP CX Bj HZ BN CY BS CE FU AV DA AZ PF CP FT AS Ji AP EG CM Ue IY EN AO DT EL FV OS EP JY DB FN CB FM XB ML EA MB FQ kA VS BE LI FO FZ LL GH JU BQ Ja IQ OB VM CS FI II BI EY PN HM OJ PJ OC MY NN KO MZ QO MV JQ QI RS SP OY PC WP VB OX WF RK RH SJ ZC RJ VG Bu PU; simp only [CC, eq_self, implies_true, forall_const, CU, WD]
  simp [h1, c0]
 ·have c0' : (CF a == 0) = false := by simpa using c0
  have e : C_Times.val a = .tup [.d (DE nilS), .int (CF a)] := by
   show AVal.tup [.d (DE (Mt a).1), .int (Mt a).2] = _
   unfold Mt; rw [c0']; rfl
  rw [e]
  refine Hp (A := BQQ) (L := []) (keep := []) (ren := []) (fz := []) AON (by kernel_rfl) (AA ABG AC) ?_
  show BQU a; rw [BRP]<;> delta BG BJ EC ES ET BW AD BU CL AR EJ GW EX HP HN HJ GT GB HC DU GG FE JW FP FK VV DO LY Jf SW AE CR FA BB GA AF PX AY AU SX AG EM EZ BC QF AX FC BM CJ AK Gg AN DD BH HX BY XN BP CX Bj HZ BN CY BS CE FU AV DA AZ PF CP FT AS Ji AP EG CM Ue IY EN AI DT EL FV OS EP DB FN CB FM XB EA MB FQ VS BE FO FZ LL GH Ja OB VM CS FI BI HM OJ OC MY NN KO QO MV RS SP OY PC WP VB OX WF RK RH SJ ZC RJ RO VG Gt Bu Sf PU; simp only [CC, eq_self, implies_true, forall_const, CU, WD]
  simp [h1, c0, nilS]) _
def Z4 (e : Int) : Bool × Int := bif e == 6 then (false, 0) else (e == 0, e)
def C_Agr : Ctr := { α := CZ, xs := xCZ, val := λ a => .tup [.bool (Z4 (CF a)).1, .int (Z4 (CF a)).2], keep := λ _ => [], pre := λ a => [a.c.ms.length < 4611686018427387904 /\ a.c.ns.length < 4611686018427387904 /\ a.z.length < 4611686018427387904] }
def BPO : Ann := ann 23 [(Pm, C_rdO.spec pZ)]
def BQL : Ann := ann 23 [(Pm, C_rdX.spec pZ)]
def BPA (a : CZ) : Prop := CH Try.prog BPO lO (AH lO) (xCZ a) (AB []) (.tup [.bool true, .int 0]) [] [] []
theorem BVL (a : CZ) : (BPA a) = (AE (PU a (DO a) (RH a a) (SJ a a) (RK a) (IQ (ZC a))) GF BQ) := by kernel_rfl
def BQN (a : CZ) : Prop := CH Try.prog BQL lO (AH lO) (xCZ a) (AB []) (C_Agr.val a) [] [] []
abbrev sY:=@Prod.fst Bool Int
abbrev sS:=@Prod.snd Bool Int
abbrev Yf a:=Z4 (CF a)
attribute [go_sem] sY sS Yf
theorem BUB (a : CZ) : (BQN a) = (And (PU a (DO a) (RH a a) (SJ a a) (RK a) (RO (ZC a))) (DZ (Dx (ZC a) 6) (EF (sY (Yf a))) (IQ (sS (Yf a))) (And (KH (sY (Yf a)) (Ig (ZC a))) (AR (sS (Yf a)) (ZC a))))) := by kernel_rfl
theorem BVK : AJ Try.prog ABS (C_Agr.spec pZ) := okT C_Agr (λ (a : CZ) h => by
 have h1 : a.c.ms.length < 4611686018427387904 /\ a.c.ns.length < 4611686018427387904 /\ a.z.length < 4611686018427387904 := h
 by_cases c0 : CF a = 0
 ·have e : C_Agr.val a = .tup [.bool true, .int 0] := by
   show AVal.tup [.bool (Z4 (CF a)).1, .int (Z4 (CF a)).2] = _
   rw [c0]; rfl
  rw [e]
  refine Hp (A := BPO) (L := []) (keep := []) (ren := []) (fz := []) AHC (by kernel_rfl) (AA ABY AC) ?_
  show BPA a; rw [BVL]<;> delta KH BG BJ EC ES ET BW AD BU CL AR SC EJ GW EX HP HN HJ GT GB HC DU GG FE JW FP FK VV JL DO LY SW AE CR FA BB GA AF PX AY AU SX AG EM EZ FD AX FC BM CJ AK Gg AN DD BH HX BY XN BP CX Bj HZ BN CY BS CE FU AV DA AZ PF CP FT AS Ji AP EG CM Ue IY EN DT EL FV OS EP DB FN CB FM XB ML EA MB FQ VS BE FO FZ LL GH BQ Ja IQ OB VM CS FI GF BI HM OJ OC MY NN KO QO MV RS SP OY PC WP VB OX WF RK RH SJ ZC RJ VG Bu PU; simp only [CC, eq_self, implies_true, forall_const, CU, WD]
  simp [h1, c0]
 ·refine Hp (A := BQL) (L := []) (keep := []) (ren := []) (fz := []) AHC (by kernel_rfl) (AA ABG AC) ?_
  show BQN a; rw [BUB]<;> delta KH ZR BG BJ EC ES ET BW AD BU CL AR EK EJ GW EX HP HN HJ GT GB HC DU GG FE JW FP FK VV Dx DO LY Jf SW sY sS AE CR FA BB GA AF PX AY AU SX AG EM EZ AX FC BM CJ AK Gg AN DD BH HX BY XN BP CX Bj HZ BN CY BS CE FU AV DA AZ PF CP FT AS Ji AP EG CM Ue IY EN DT EL FV OS EP DB FN CB FM XB DZ EA MB FQ VS BE FO FZ LL GH Ja IQ OB VM CS EF FI BI HM OJ OC MY NN KO QO MV RS SP OY PC WP VB OX WF RK RH SJ ZC RJ RO VG Yf Ig Bu PU; simp only [CC, eq_self, implies_true, forall_const, CU, WD]
  refine ⟨⟨h1, c0⟩, λ h => ?_, λ h => ?_⟩
  ·unfold Z4; rw [h]; exact ⟨rfl, rfl⟩
  ·unfold Z4; rw [h]; exact ⟨rfl, rfl⟩) _
end Go.Bal
