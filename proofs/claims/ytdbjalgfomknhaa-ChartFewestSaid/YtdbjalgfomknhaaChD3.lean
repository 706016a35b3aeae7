/- Package chart: times. -/
import Derived.Test.YtdbjalgfomknhaaChD2
set_option linter.unusedVariables false
set_option linter.unusedSimpArgs false
namespace Go.Bal
open Go Go.Sym Go.Proofs
def HG (w : Dk) : List Span × Bool := bif ZC w.c then (nS w (vB w.c), (nS w (vB w.c)).all jN) else ([], false)
def C_times : Ctr := { ro := [100, 101], α := Dk, xs := λ _ => [.bptr 100 0], L := λ w => dkL w, val := λ w => .tup [.d (DW (HG w).1), .bool (HG w).2], keep := λ w => dkK w, pre := λ w => [1 <= w.c.ms.length /\ w.c.ms.length <= 40 /\ nsIn w.c] }
def BOX : Ann := { ann 19 [(BKY, C_all.spec dDk1), (BHX, C_not.spec dDk1), (Yv, C_nar.spec dDkS)] with E := [100, 101] }
def BPJ (w : Dk) : Prop := DN Try.prog BOX BGL (AP BGL) (C_times.xs w) (AH (C_times.L w)) (C_times.val w) (C_times.keep w) [] []
abbrev lR a:=vB (Vj a)
abbrev Wf a b:=R8 a b b
abbrev Lg a:=(@Prod.snd (List Span) Bool) (HG a)
abbrev Gf a:=(@Prod.fst (List Span) Bool) (HG a)
abbrev RB (a:Nat->Prop) b (c:Nat->Prop) d e f g h p:=HQ a b (AK c) d e f g h p
abbrev QU (a:Nat->Prop) b (c:Nat->Prop) d e f g (h:Int->Prop) p:=RB a (DF b) c d e f g (BI h) p
abbrev QR (a:Nat->Prop) b c d e (f:Int->Prop) g h p:=HQ a b c d e (BI f) g h p
abbrev Kc a:=YL a (DR a)
abbrev Cw a b c:=KQ a (HB b c)
attribute [go_sem] lR Wf Lg Gf RB QU QR Kc Cw
theorem BZA (w : Dk) : (BPJ w) = (EG (QM w) (QI w) (WS w) (WO w) (WK w) (PF (BR (AQ w)) (λ i=>CH i (AQ w)) (DF (AQ w)) (λ i=>BP i (AQ w)) (λ i=>LP i w) (EV (AQ w)) w (AO (BI (λ i=>FG (AQ w) i (IK w i))) (QM w) (QI w) (WS w) (WO w) (WK w) (DA (AQ w)) (HO (AQ w)) (DJ (DB (AQ w)) (λ i=>CQ i (AQ w)) (EP w) BC (EQ (AQ w)) (EC w) (BI (λ i=>FF (IK w i) (AQ w) i)) (UA (AQ w)) (PA (AQ w))))) (FX (not (eD (Vj w))) (AWU (JN (Gf w) 0) (HF (Lg w)) (QM w) (QI w) (WS w) (WO w) (WK w) (Uw w w)) (EG (QM w) (QI w) (WS w) (WO w) (WK w) (PF (BR (AQ w)) (λ i=>CH i (AQ w)) (DF (AQ w)) (λ i=>BP i (AQ w)) (λ i=>LP i w) (EV (AQ w)) w (AO (BI (λ i=>FG (AQ w) i (IK w i))) (QM w) (QI w) (WS w) (WO w) (WK w) (DA (AQ w)) (HO (AQ w)) (DJ (DB (AQ w)) (λ i=>CQ i (AQ w)) (EP w) BC (EQ (AQ w)) (EC w) (BI (λ i=>FF (IK w i) (AQ w) i)) (DY (UA (AQ w)) (CY (AQ w)) 40 (BI (λ i=>Cw (Ac (AQ w) i) i (CY (AQ w))))) (DJ (Kc (lR w)) (λ i=>QJ i (LF (lR w)) (PX (lR w)) (lR w)) (QM w) (QI w) (WS w) (WO w) (WK w) (BR (AQ w)) (QU (λ i=>CH i (AQ w)) (AQ w) (λ i=>BP i (AQ w)) (EP w) BC (EV (AQ w)) (EC w) (λ i=>FG (AQ w) i (IK w i)) (MJ (AQ w) (QR (λ i=>CQ i (AQ w)) (EP w) BC (EQ (AQ w)) (EC w) (λ i=>FF (IK w i) (AQ w) i) (YL (lR w) (CY (AQ w))) (UA (AQ w)) (PA (AQ w))))))))) (DJ (LO (Gf w) (Zc (Wf (Vj w) w) (PX (lR w)))) (λ i=>QJ i (DR (Gf w)) (Gf w) (Zc (Wf (Vj w) w) (PX (lR w)))) (MF (Lg w) (yP (Zc (Wf (Vj w) w) (PX (lR w))) jN)) (QM w) (QI w) (WS w) (WO w) (WK w) (Uw w w))))) := by kernel_rfl
theorem Of (a : CZ) : CZ.mk a.c a.z = a := rfl
theorem Ro (c : Cht) : (vB c).length = c.ms.length := rng_length _ _
theorem E7 : AR Try.prog AOD (C_times.spec dDk1) := Jp C_times (λ _ => BOX) [] [] BVC (λ _ => by kernel_rfl) (λ _ => AC BFA (AC CIQ (AC BNQ AL))) (λ (w : Dk) h => by
 obtain ⟨h1, h2, h3⟩ : 1 <= w.c.ms.length /\ w.c.ms.length <= 40 /\ nsIn w.c := h
 show BPJ w; rw [BZA]<;> delta MF Sw BU CO FM FQ FP CL DR AK CA DD AU ML BW GM FX KZ KB IV HC HA HZ ID IA JD GN FW FY Wy yP PB PY BI NH AQ OE KO eD Zc AI BG DV EN GF AN BO BK CG BJ BB BY AO AM HS FZ BL BV ED AWU NK CS GS CD IW CJ CX DM AZ CR CY DP EU CV DH BA AW HD Fs DQ GJ EA EI gU HY DG BD FS EJ FU IK R8 BE EH ER OZ FR OO DI BZ HM MN GC HI KP EF EO GI BC XD FH LB HQ GK GR JG HR GX PX Wf KU GO FI LC FT JU LF TL Bf LD JX IR KM Ac LG GD NL JH VO WV SJ MK LR OG HB BR DF LP IL IP IS IM JZ EL CH MX OC NF RC RB QA VK WQ DB DA MM BS QQ OH NO KQ EC JN NA PI JK QK BP MB HF DY WG Gf FV MQ HN UR VX EP YC EV EG XS DJ FF UI IF Az CQ FG LO EQ QM QJ QI PA HO WS YL UK WO WK Vj UA lR MJ Cw Lg QU QR Uw Ez Kc PF; simp only [CC, eq_self, implies_true, forall_const, EB, Ts]
 refine ⟨⟨h1, h2⟩, λ h => ?_, λ h => ⟨⟨⟨h1, h2, h3⟩, Ro _, h1, h2⟩, ?_⟩⟩
 ·unfold HG; rw [h]; exact ⟨rfl, rfl, rfl⟩
 ·unfold HG; rw [h]; exact ⟨rfl, λ _ _ => ⟨rfl, rfl⟩, rfl⟩) (λ _ => Mi rfl rfl) _
def EE (a : CZ) : Int := bif BF a.c == 0 then bif okZ a then bif (HG (WL a)).2 then 0 else 6 else 2 else BF a.c
def C_rdO : Ctr := { α := CZ, xs := xCZ, val := λ a => .tup [.bptr 0 0, .d (DW (HG (WL a)).1), .d (DW (Lr a.c)), .int 0], keep := λ a => dkN (WL a), pre := λ a => [(a.c.ms.length < 4611686018427387904 /\ a.c.ns.length < 4611686018427387904 /\ a.z.length < 4611686018427387904) /\ EE a = 0] }
def C_rdX : Ctr := { α := CZ, xs := xCZ, val := λ a => .tup [.d (.v (.pointer none)), .d UJ, .d UJ, .int (EE a)], keep := λ _ => [], pre := λ a => [(a.c.ms.length < 4611686018427387904 /\ a.c.ns.length < 4611686018427387904 /\ a.z.length < 4611686018427387904) /\ EE a ≠ 0] }
def A_rd : Ann := ann 38 [(ANO, C_beg.spec dCZ), (AOD, C_times.spec dDk1), (BKY, C_all.spec dDk1)]
def CGV : Ann := ann 38 [(ANO, C_begX.spec dCZ)]
def CHM (a : CZ) : Prop := DN Try.prog A_rd AKD (AP AKD) (xCZ a) (AH []) (C_rdO.val a) (C_rdO.keep a) [(0, 2032), (1, 2033)] []
abbrev CK a:=IN (CZ.mk (Na a a a) (XC a))
abbrev Vo a b:=NK (CK a) b
abbrev Fq a:=CZ.mk (MZ a) (XC a)
abbrev RS a:=Le (Fq a)
abbrev jX a:=CV (CK a)
abbrev rJ a:=Gf (Le a)
abbrev rI a:=EC (RS a)
abbrev qS a:=EP (RS a)
abbrev oU a:=AW (CK a)
abbrev tA a:=BD (CK a)
abbrev rX a:=BE (CK a)
abbrev uO a:=AZ (CK a)
abbrev rO a:=BA (CK a)
abbrev WU a b:=Dh (BA a) a b
abbrev Gk a b:=WU (OB a) b
abbrev VR a b:=IE (ME a) (ZO b) (DX (XC b)) 4611686018427387904
abbrev Gr a b:=VR (OB a) b
abbrev OK a b:=QX a (XC b) (CZ.z b)
abbrev Ib a:=CW (OB a)
abbrev Ie a:=BR (OB a)
abbrev Ga a:=AW (OB a)
attribute [go_sem] CK Vo Fq RS jX rJ rI qS oU tA rX uO rO WU Gk VR Gr OK Ib Ie Ga
theorem CKH (a : CZ) : (CHM a) = (EX (Gk a (DO (Ga a) (Ie a) (Ib a) (ZJ a a) (λ i=>TC i a a i a i) (MH a) (λ i=>OK i a) (Gr a a) (DK (Es a)))) (PK (Yl (Fq a))) JY (EX (CM (rO a) (uO a) (rX a) (tA a) (oU a) (BR (CK a)) (QU (λ i=>CH i (CK a)) (CK a) (λ i=>BP i (CK a)) (qS a) BC (EV (CK a)) (rI a) (λ i=>FG (CK a) i (Vo a i)) (MJ (CK a) (QR (λ i=>CQ i (CK a)) (qS a) BC (EQ (CK a)) (rI a) (λ i=>FF (Vo a i) (CK a) i) (UA (CK a)) (PA (CK a)) (BI (λ i=>Cw (Ac (CK a) i) i (CY (CK a)))))))) (not (Lg (Wf (jX a) (RS a)))) JY (EG (rO a) (uO a) (rX a) (tA a) (oU a) (PF (BR (CK a)) (λ i=>CH i (CK a)) (DF (CK a)) (λ i=>BP i (CK a)) (λ i=>LP i (RS a)) (EV (CK a)) (RS a) (AO (BI (λ i=>FG (CK a) i (Vo a i))) (rO a) (uO a) (rX a) (tA a) (oU a) (DA (CK a)) (HO (CK a)) (DJ (DB (CK a)) (λ i=>CQ i (CK a)) (qS a) BC (EQ (CK a)) (rI a) (BI (λ i=>FF (Vo a i) (CK a) i)) (UA (CK a)) (PA (CK a))))) (JO (LO (rJ a) (Gf (Wf (jX a) (RS a)))) (λ i=>QJ i (DR (rJ a)) (rJ a) (Gf (Wf (jX a) (RS a)))) (DJ (LO (TF (OB a)) (TF (jX a))) (λ i=>PI i (DR (TF (OB a))) (TF (OB a)) (GK (TF (jX a)) i) (We (OB a) i) (We (jX a) i)) BM (PC (IN a) (CK a)) (OX (IN a) (CK a)) (PR (IN a) (CK a)) (PO (IN a) (CK a)) (PH (IN a) (CK a)) (OG (RP (IN a) (CK a)) (λ i=>RO i (IN a) i (CK a) i i) (RR (IN a) (CK a)) (λ i=>FV i (IN a) (CR (CK a) i) (DQ (CK a) i) (BG (CK a) i) (WR (IN a) i (CK a) i) (WA (IN a) i (CK a) i)) (λ i=>Hz i (KO (Le a) i) (KO (RS a) i)) BC (BI (λ i=>XO (IN a) i (CK a) i)) (λ i=>Ep (OE (Le a) i) (RS a) i) (λ i=>MM (NK (IN a) i) (Vo a i)))))))) := by kernel_rfl
def CAB (a : CZ) : Prop := DN Try.prog A_rd AKD (AP AKD) (xCZ a) (AH []) (C_rdX.val a) [] [] []
abbrev BCU a b c:=dN a b b c
abbrev Ju a b:=AU (EE a) b
attribute [go_sem] BCU Ju
theorem CDU (a : CZ) : (CAB a) = (JL (Gk a (DO (Ga a) (Ie a) (Ib a) (ZJ a a) (λ i=>TC i a a i a i) (MH a) (λ i=>OK i a) (Gr a a) (DK (Es a)))) (PK (Yl (Fq a))) Yh (BCU AJ HJ (Ju a (Yl (Fq a)))) (JL (CM (rO a) (uO a) (rX a) (tA a) (oU a) (BR (CK a)) (QU (λ i=>CH i (CK a)) (CK a) (λ i=>BP i (CK a)) (qS a) BC (EV (CK a)) (rI a) (λ i=>FG (CK a) i (Vo a i)) (MJ (CK a) (QR (λ i=>CQ i (CK a)) (qS a) BC (EQ (CK a)) (rI a) (λ i=>FF (Vo a i) (CK a) i) (UA (CK a)) (PA (CK a)) (BI (λ i=>Cw (Ac (CK a) i) i (CY (CK a)))))))) (not (Lg (Wf (jX a) (RS a)))) Yh (BCU AJ HJ (kS (EE a))) (EG (rO a) (uO a) (rX a) (tA a) (oU a) (PF (BR (CK a)) (λ i=>CH i (CK a)) (DF (CK a)) (λ i=>BP i (CK a)) (λ i=>LP i (RS a)) (EV (CK a)) (RS a) (AO (BI (λ i=>FG (CK a) i (Vo a i))) (rO a) (uO a) (rX a) (tA a) (oU a) (DA (CK a)) (HO (CK a)) (DJ (DB (CK a)) (λ i=>CQ i (CK a)) (qS a) BC (EQ (CK a)) (rI a) (BI (λ i=>FF (Vo a i) (CK a) i)) (UA (CK a)) (PA (CK a))))) JY))) := by kernel_rfl
def BWZ (a : CZ) : Prop := DN Try.prog CGV AKD (AP AKD) (xCZ a) (AH []) (C_rdX.val a) [] [] []
theorem CEN (a : CZ) : (BWZ a) = (JL (Gk a (DO (Ga a) (Ie a) (Ib a) (ZJ a a) (λ i=>TC i a a i a i) (MH a) (λ i=>OK i a) (Gr a a) (OY (Es a)))) (PK (Yl (Fq a))) Yh (BCU AJ HJ (Ju a (Yl (Fq a)))) JY) := by kernel_rfl
theorem AAY (a : CZ) : Dk.mk a.c (WL a).st (WL a).sp = WL a := rfl
theorem fD {c : Cht} (h : BF c = 0) : nsIn c /\ ∀ n ∈ c.ns, WJ n c.ms.length = true := by
 obtain ⟨h1, ⟨h2, h3⟩, h4⟩ := QE h
 have hr : c.ns.all (λ n => WJ n c.ms.length) = true := by
  cases hq : c.ns.all (λ n => WJ n c.ms.length) with
  | true => rfl
  | false =>
   unfold BF at h
   rw [h1, hq] at h
   cases hm : (mkC (-1) c.ms != 0) with
   | true =>
    rw [hm] at h
    have h : mkC (-1) c.ms = 0 := h
    rw [h] at hm; cases hm
   | false => rw [hm] at h; cases h
 refine ⟨λ j hj => ?_, λ n hn => List.all_eq_true.1 hr n hn⟩
 unfold hasN at hj
 obtain ⟨x, hx, e⟩ := List.any_eq_true.1 hj
 have e : x.mi = j := by simpa using e
 have := List.all_eq_true.1 hr x hx
 unfold WJ Fw wr at this
 rw [PE (by omega) (by omega)] at this
 simp only [Bool.and_eq_true, decide_eq_true_eq] at this
 omega
theorem APD {a : CZ} (h : EE a = 0) : BF a.c = 0 /\ okZ a = true /\ (HG (WL a)).2 = true := by
 unfold EE at h
 cases h1 : (BF a.c == 0) with
 | false => rw [h1] at h; have h : BF a.c = 0 := h; rw [h] at h1; cases h1
 | true =>
  rw [h1] at h
  cases h2 : okZ a with
  | false => rw [h2] at h; cases h
  | true =>
   rw [h2] at h
   cases h3 : (HG (WL a)).2 with
   | false => rw [h3] at h; cases h
   | true => exact ⟨by simpa using h1, rfl, rfl⟩
theorem AYS : AR Try.prog Ot (C_rdO.spec dCZ) := Jp C_rdO (λ _ => A_rd) [(0, 2032), (1, 2033)] [] BGE (λ _ => by kernel_rfl) (λ _ => AC BVJ (AC E7 (AC BFA AL))) (λ (a : CZ) h => by
 obtain ⟨h1, h2⟩ : (a.c.ms.length < 4611686018427387904 /\ a.c.ns.length < 4611686018427387904 /\ a.z.length < 4611686018427387904) /\ EE a = 0 := h
 obtain ⟨c0, c1, c2⟩ := APD h2
 have e : begE a = 0 := by unfold begE; rw [c0, c1]; rfl
 have hl := QE c0
 have hn := (fD c0).1
 show CHM a; rw [CKH]<;> delta MF BU CO FM FQ FP CL DR AK CA DD AU ML BW Aj GM FX KZ KB IV HC HA HZ ID IA JD GN FW FY PB Ea WW JY PY BI NH AQ OE DX DE KO OB NJ Yl Le TF AI BG DV EN GF AN IN BO XE BK Lh CG BJ BB BY AO AM HS FZ BL ED UZ NK CS GS CD IW CJ CX DM AZ CR CY DP EU Kg XC CV DH BA AW Fs DQ GJ EA LU EI HY DG Na BD EJ FU GU R8 BE EH ER OZ FR OO EM DI BZ IE HM GC HI EF GI DS BC XD FH LB HQ GK GR JG HR GX Wf MZ CK PP FI LC FT JU TL Mo JX QC IR KM We Ac GD NL JH VO NG WV SJ DK DO LR OG HB BR DF Fq LP IL IP IS IM JZ PL QX CH OC ME RC NM RB CM Kq VK WQ RS BM DB DA MM CW QQ NO KQ SY EC JO JN PI JK QK BP MB EX GV WG Gf FV MQ HN EP YC EV EG XS DJ FF UI Az CQ FG PK LO EQ QJ UU PA ZO HO TA PJ Hg Gg PC PH UA MH TN Hn VQ PO OX PR RP RR OK VY Es XO WA Dh MJ VR WR ZJ Vo Cw WU Gv Ib Ie jX Lg Ga TC RO Hz QU QR Gk Ep Gr qS rJ rX Ez rI tA PF oU rO uO; simp only [CC, eq_self, implies_true, forall_const, EB, Ts, J2, Of, AAY, e, c2]
 exact ⟨⟨h1, c0⟩, (λ h => by simp at h), λ _ => ⟨⟨by omega, by omega, hn⟩, (λ h => by cases h), by omega, by omega⟩⟩) (λ _ => Mi rfl rfl) _
theorem AZS : AR Try.prog Ot (C_rdX.spec dCZ) := okT C_rdX (λ (a : CZ) h => by
 obtain ⟨h1, h2⟩ : (a.c.ms.length < 4611686018427387904 /\ a.c.ns.length < 4611686018427387904 /\ a.z.length < 4611686018427387904) /\ EE a ≠ 0 := h
 by_cases c0 : BF a.c = 0
 ·have e : begE a = bif okZ a then 0 else 2 := by unfold begE; rw [c0]; rfl
  have e2 : EE a = bif okZ a then bif (HG (WL a)).2 then 0 else 6 else 2 := by unfold EE; rw [c0]; rfl
  have hl := QE c0
  have hn := (fD c0).1
  refine Su (A := A_rd) (L := []) (keep := []) (ren := []) (fz := []) BGE (by kernel_rfl) (AC BVJ (AC E7 (AC BFA AL))) ?_
  show CAB a; rw [CDU]<;> delta MF Sw BU CO FM FQ FP CL AK CA DD AU BW GM FX KZ KB IV HC HA HZ ID IA JD GN FW FY PB Ea WW JY PY BI NH AQ OE DX DE KO OB NJ Yl Le AI BG DV EN GF AN IN BO XE BK Lh CG BJ BB BY AO AM HS FZ BL BV ED dN BCU UZ NK CS GS CD IW CJ CX DM AZ CR CY DP EU Kg XC CV DH BA AW Fs DQ GJ EA LU EI HY DG Na BD EJ FU GU R8 BE EH ER OZ AJ FR OO EM DI BZ IE HM GC HI EF GI DS BC XD FH LB HQ GR JG HR GX Wf MZ CK PP FI LC FT JU TL Mo JX QC IR KM Ac GD NL JH VO NG WV SJ DK DO LR HB BR DF Fq LP IL IP IS IM JZ PL QX CH OC ME RC RB CM Kq WQ RS DB DA MM CW QQ NO KQ EC JK QK BP MB EX WG FV HN EP YC EV OW EG XS HJ DJ FF CQ FG PK EQ UU PA ZO HO JL TA PJ UA MH TN VQ OK VY Es kS Dh MJ VR ZJ Vo Cw WU Ib Ie jX Lg Ga TC QU QR Gk Gr qS rX Ez rI tA Yh PF Ju oU rO uO; simp only [CC, eq_self, implies_true, forall_const, EB, Ts, J2, Of, AAY, e]
  rw [e2] at h2 ⊢
  refine ⟨⟨h1, c0⟩, ?_⟩
  cases ho : okZ a with
  | false => exact ⟨λ _ => rfl, λ h => by simp at h⟩
  | true =>
   rw [ho] at h2
   cases hq : (HG (WL a)).2 with
   | false => exact ⟨λ h => by simp at h, λ _ => ⟨⟨by omega, by omega, hn⟩, λ _ => rfl, λ h => by cases h⟩⟩
   | true => rw [hq] at h2; exact absurd rfl h2
 ·have c0' : (BF a.c == 0) = false := by simpa using c0
  have e : begE a = BF a.c := by unfold begE; rw [c0']; rfl
  have e2 : EE a = BF a.c := by unfold EE; rw [c0']; rfl
  refine Su (A := CGV) (L := []) (keep := []) (ren := []) (fz := []) BGE (by kernel_rfl) (AC CBH AL) ?_
  show BWZ a; rw [CEN]<;> delta MF Sw BU CO FM FQ FP CL AK CA DD AU FX IV HC HA HZ ID IA JD GN FW FY Ea WW JY PY DX DE OB NJ Yl AI BG DV EN GF AN BO XE BK Lh CG BJ BB BY AO AM FZ BL BV ED dN BCU UZ CS CD IW CJ CX DM AZ CY DP EU Kg XC DH BA AW GJ EA LU EI DG Na BD GU BE EH ER OZ AJ EM IE HM GC EF GI DS FH GR MZ PP FI LC Mo JX QC GD NL NG DO BR Fq PL QX CH ME Kq CW EX OW HJ PK UU ZO JL TA PJ MH TN VQ OY OK VY Es Dh VR ZJ WU Ib Ie Ga TC Gk Gr Yh Ju; simp only [CC, eq_self, implies_true, forall_const, EB, Of, e, e2]
  simp [h1, c0]) _
def timR (a : CZ) : List Span × Int := bif EE a == 0 then ((HG (WL a)).1, 0) else ([], EE a)
def C_Times : Ctr := { α := CZ, xs := xCZ, val := λ a => .tup [.d (DW (timR a).1), .int (timR a).2], keep := λ _ => [], pre := λ a => [a.c.ms.length < 4611686018427387904 /\ a.c.ns.length < 4611686018427387904 /\ a.z.length < 4611686018427387904] }
def CHP : Ann := ann 20 [(Ot, C_rdO.spec dCZ)]
def CGY : Ann := ann 20 [(Ot, C_rdX.spec dCZ)]
def CEW (a : CZ) : Prop := DN Try.prog CHP AOP (AP AOP) (xCZ a) (AH []) (.tup [.d (DW (HG (WL a)).1), .int 0]) [] [] []
abbrev Hr a:=Gf (RS a)
abbrev RE a:=EE (Fq a)
attribute [go_sem] Hr RE
theorem CKB (a : CZ) : (CEW a) = (BQ (Gk a (DO (Ga a) (Ie a) (Ib a) (ZJ a a) (λ i=>TC i a a i a i) (MH a) (λ i=>OK i a) (Gr a a) (DK (RE a)))) (LO (rJ a) (Hr a)) (ZH (DR (rJ a)) (rJ a) (Hr a)) BM) := by kernel_rfl
def CFS (a : CZ) : Prop := DN Try.prog CGY AOP (AP AOP) (xCZ a) (AH []) (.tup [.d (DW nilS), .int (EE a)]) [] [] []
theorem CIX (a : CZ) : (CFS a) = (And (Gk a (DO (Ga a) (Ie a) (Ib a) (ZJ a a) (λ i=>TC i a a i a i) (MH a) (λ i=>OK i a) (Gr a a) (OY (RE a)))) (Cr AJ (Ju a (RE a)))) := by kernel_rfl
theorem CAT : AR Try.prog BHM (C_Times.spec dCZ) := okT C_Times (λ (a : CZ) h => by
 have h1 : a.c.ms.length < 4611686018427387904 /\ a.c.ns.length < 4611686018427387904 /\ a.z.length < 4611686018427387904 := h
 by_cases c0 : EE a = 0
 ·have e : C_Times.val a = .tup [.d (DW (HG (WL a)).1), .int 0] := by
   show AVal.tup [.d (DW (timR a).1), .int (timR a).2] = _
   unfold timR; rw [c0]; rfl
  rw [e]
  refine Su (A := CHP) (L := []) (keep := []) (ren := []) (fz := []) BIY (by kernel_rfl) (AC AYS AL) ?_
  show CEW a; rw [CKB]<;> delta BU CO FM FQ FP CL DR AK CA DD AU ML Aj IV HC HA HZ ID IA JD GN FW FY DX DE OB NJ Le AI BG DV EN GF AN BO XE BK Lh CG BJ BB BY AO AM FZ BL UZ CS CD IW CJ CX DM AZ CY DP EU Kg XC DH BA AW GJ EA LU EI DG Na BD GU BE EH ER EM IE HM GC EF GI DS FH GK GR MZ PP FI LC Mo JX QC GD NL BQ NG DK DO BR Fq PL QX CH ME NM Kq VK RS BM CW JN PI Gf MQ UI Az LO RE QJ UU ZO TA PJ ZH MH TN VQ Hr OK VY Dh VR ZJ WU Ib Ie Ga TC Gk Gr rJ; simp only [CC, eq_self, implies_true, forall_const, EB, Of]
  simp [h1, c0]
 ·have c0' : (EE a == 0) = false := by simpa using c0
  have e : C_Times.val a = .tup [.d (DW nilS), .int (EE a)] := by
   show AVal.tup [.d (DW (timR a).1), .int (timR a).2] = _
   unfold timR; rw [c0']; rfl
  rw [e]
  refine Su (A := CGY) (L := []) (keep := []) (ren := []) (fz := []) BIY (by kernel_rfl) (AC AZS AL) ?_
  show CFS a; rw [CIX]<;> delta BU CO FM FQ FP CL AK CA DD AU IV HC HA HZ ID IA JD GN FW FY DX DE OB NJ AI BG DV EN GF AN BO XE BK Lh CG BJ BB BY AO AM FZ BL BV Cr UZ CS CD IW CJ CX DM AZ CY DP EU Kg XC DH BA AW GJ EA LU EI DG Na BD GU BE EH ER AJ EM IE HM GC EF GI DS FH GR MZ PP FI LC Mo JX QC GD NL NG DO BR Fq PL QX CH ME Kq CW RE UU ZO TA PJ MH TN VQ OY OK VY Dh VR ZJ WU Ib Ie Ga TC Gk Gr Ju; simp only [CC, eq_self, implies_true, forall_const, EB, Of]
  simp [h1, c0, nilS]) _
def mK (e : Int) : Bool × Int := bif e == 6 then (false, 0) else (e == 0, e)
def C_Agr : Ctr := { α := CZ, xs := xCZ, val := λ a => .tup [.bool (mK (EE a)).1, .int (mK (EE a)).2], keep := λ _ => [], pre := λ a => [a.c.ms.length < 4611686018427387904 /\ a.c.ns.length < 4611686018427387904 /\ a.z.length < 4611686018427387904] }
def CHR : Ann := ann 23 [(Ot, C_rdO.spec dCZ)]
def CGP : Ann := ann 23 [(Ot, C_rdX.spec dCZ)]
def CGG (a : CZ) : Prop := DN Try.prog CHR vE (AP vE) (xCZ a) (AH []) (.tup [.bool true, .int 0]) [] [] []
theorem CIJ (a : CZ) : (CGG a) = (AI (Gk a (DO (Ga a) (Ie a) (Ib a) (ZJ a a) (λ i=>TC i a a i a i) (MH a) (λ i=>OK i a) (Gr a a) (DK (RE a)))) GP BM) := by kernel_rfl
def CFT (a : CZ) : Prop := DN Try.prog CGP vE (AP vE) (xCZ a) (AH []) (C_Agr.val a) [] [] []
abbrev Ft:=@Prod.fst Bool Int
abbrev iM:=@Prod.snd Bool Int
abbrev lD a:=mK (EE a)
attribute [go_sem] Ft iM lD
theorem CJV (a : CZ) : (CFT a) = (JL (Gk a (DO (Ga a) (Ie a) (Ib a) (ZJ a a) (λ i=>TC i a a i a i) (MH a) (λ i=>OK i a) (Gr a a) (OY (RE a)))) (Ye (RE a) 6) (HF (Ft (lD a))) (DK (iM (lD a))) (And (MF (Ft (lD a)) (TY (RE a))) (AU (iM (lD a)) (RE a)))) := by kernel_rfl
theorem BMW : AR Try.prog AZJ (C_Agr.spec dCZ) := okT C_Agr (λ (a : CZ) h => by
 have h1 : a.c.ms.length < 4611686018427387904 /\ a.c.ns.length < 4611686018427387904 /\ a.z.length < 4611686018427387904 := h
 by_cases c0 : EE a = 0
 ·have e : C_Agr.val a = .tup [.bool true, .int 0] := by
   show AVal.tup [.bool (mK (EE a)).1, .int (mK (EE a)).2] = _
   rw [c0]; rfl
  rw [e]
  refine Su (A := CHR) (L := []) (keep := []) (ren := []) (fz := []) BEC (by kernel_rfl) (AC AYS AL) ?_
  show CGG a; rw [CIJ]<;> delta MF BU CO FM FQ FP CL AK CA DD AU Aj IV HC HA HZ ID IA JD GN FW FY PB DX DE OB NJ AI BG DV EN GF AN BO XE BK Lh CG BJ BB BY AO AM FZ BL ED UZ CS CD IW CJ CX DM AZ CY DP EU Kg XC DH BA AW GJ EA LU EI DG Na BD GU BE EH ER EM IE HM GC EF GI DS FH GR MZ PP FI LC Mo JX QC GD NL NG DK DO BR Fq PL QX CH ME NM Kq BM CW GP RE UU ZO TA PJ MH TN VQ OK VY Dh VR ZJ WU Ib Ie Ga TC Gk Gr; simp only [CC, eq_self, implies_true, forall_const, EB, Of]
  simp [h1, c0]
 ·refine Su (A := CGP) (L := []) (keep := []) (ren := []) (fz := []) BEC (by kernel_rfl) (AC AZS AL) ?_
  show CFT a; rw [CJV]<;> delta MF Sw BU CO FM FQ FP CL AK CA DD AU FX IV HC HA HZ ID IA JD GN FW FY Ye DX DE OB NJ Ft iM AI BG DV EN GF AN BO XE BK Lh CG BJ BB BY AO AM FZ BL UZ CS CD IW CJ CX DM AZ CY DP EU Kg XC DH BA AW GJ EA LU EI DG Na BD GU BE EH ER EM IE HM GC EF GI DS FH GR MZ PP FI LC Mo JX QC GD NL NG DK DO BR Fq PL QX CH ME Kq CW EX HF RE TY lD UU ZO JL TA PJ MH TN VQ OY OK VY Dh VR ZJ WU Ib Ie Ga TC Gk Gr; simp only [CC, eq_self, implies_true, forall_const, EB, Of]
  refine ⟨⟨h1, c0⟩, λ h => ?_, λ h => ?_⟩
  ·unfold mK; rw [h]; exact ⟨rfl, rfl⟩
  ·unfold mK; rw [h]; exact ⟨rfl, rfl⟩) _
end Go.Bal
