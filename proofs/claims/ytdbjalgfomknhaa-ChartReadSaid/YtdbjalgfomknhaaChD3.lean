/- Package chart: times. -/
import Derived.Test.YtdbjalgfomknhaaChD2
set_option linter.unusedVariables false
set_option linter.unusedSimpArgs false
namespace Go.Bal
open Go Go.Sym Go.Proofs
def HV (w : Dk) : List Span × Bool := bif Hn w.c then (Ry w (Kb w.c), (Ry w (Kb w.c)).all Ps) else ([], false)
def C_times : Ctr := { ro := [100, 101], α := Dk, xs := λ _ => [.bptr 100 0], L := λ w => dkL w, val := λ w => .tup [.d (CK (HV w).1), .bool (HV w).2], keep := λ w => dkK w, pre := λ w => [1 <= w.c.ms.length /\ w.c.ms.length <= 40 /\ nsIn w.c] }
def AWD : Ann := { ann 19 [(AQY, C_all.spec D6), (ACT, C_not.spec D6), (Ro, C_nar.spec dDkS)] with E := [100, 101] }
def AXM (w : Dk) : Prop := CR Try.prog AWD AMM (AL AMM) (C_times.xs w) (AE (C_times.L w)) (C_times.val w) (C_times.keep w) [] []
abbrev Td:=HV
abbrev wN:=@Prod.snd (List Span) Bool
abbrev pA a:=Kb (Ot a)
abbrev ZX a b:=wV a (Dk.st b) b
abbrev TE a b c d:=TD a b (IA b c) d
abbrev Wq a:=(@Prod.fst (List Span) Bool) (Td a)
abbrev QK a b c d e f g:=AN a b c (AW d) e (BA d) (BB d) f g
abbrev NY a (b:Nat->Prop) c d e f g h:=KI (BM a) (CA a) b c d e f g h
abbrev Jd a b (c:Nat->Prop) d e:=RA a a b c d e
abbrev RV a b:=Jd a (DQ a) (λ i=>DT i a) (DK a) b
attribute [go_sem] Td wN pA ZX TE Wq QK NY Jd RV
theorem BBU (w : Dk) : (AXM w) = (And (DA (SG w) (TN w) (WM w) (YU w) (YT w) (KO (BF (AG w)) (λ i=>CE i (AG w)) (CA (AG w)) (λ i=>BC i (AG w) (BG (AG w) i) (BD (AG w) i) (AP (AG w) i) (AZ (AG w) i) (AO (AG w) i) (BE (AG w) i) (AM (AG w) i)) (λ i=>FU i w) BI (EN (AG w)) (λ i=>JY w i) (AN (EM (AG w)) (SG w) (TN w) (WM w) (YU w) (YT w) (DQ (AG w)) (FI (AG w)) (NN (DK (AG w)) (EJ (AG w)) (λ i=>FU i w) (EY (AG w)) w (GC (AG w)) (QO (AG w)) (MD (AG w)))))) (EZ (not (aC (Ot w))) (WY (NA (Wq w) 0) (EX (wN (Td w))) (SG w) (AK (TN w) (WM w) (YU w) (YT w) (JM (AG w) (λ i=>FU i w) w))) (DA (SG w) (TN w) (WM w) (YU w) (YT w) (KO (BF (AG w)) (λ i=>CE i (AG w)) (CA (AG w)) (λ i=>BC i (AG w) (BG (AG w) i) (BD (AG w) i) (AP (AG w) i) (AZ (AG w) i) (AO (AG w) i) (BE (AG w) i) (AM (AG w) i)) (λ i=>FU i w) BI (EN (AG w)) (λ i=>JY w i) (AN (EM (AG w)) (SG w) (TN w) (WM w) (YU w) (YT w) (DQ (AG w)) (FI (AG w)) (NN (DK (AG w)) (EJ (AG w)) (λ i=>FU i w) (EY (AG w)) w (GC (AG w)) (AH (QO (AG w)) (MD (AG w)) (DF (λ i=>HQ (WX (AG w) i) (CS i (ED (AG w)))))) (QK (Aw (pA w)) (AF (λ i=>OH i (pA w) i)) (SG w) (AG w) (WM w) (BF (AG w)) (NY (AG w) (λ i=>BC i (AG w) (BG (AG w) i) (BD (AG w) i) (AP (AG w) i) (AZ (AG w) i) (AO (AG w) i) (BE (AG w) i) (AM (AG w) i)) (KJ w) BI (EN (AG w)) (HB w) (EM (AG w)) (RV (AG w) (AN (EJ (AG w)) (KJ w) BI (EY (AG w)) (HB w) (GC (AG w)) (LY (JH (pA w)) (AG w)) (QO (AG w)) (MD (AG w)))))))))) (DP (HT (Wq w) (Vn (ZX (Ot w) w) (UJ (pA w)))) (AF (λ i=>TE i (Wq w) i (Vn (ZX (Ot w) w) (UJ (pA w))))) (LV (wN (Td w)) (pQ (Vn (ZX (Ot w) w) (UJ (pA w))) Ps)) (AG w) (λ i=>FU i w) w))) := by kernel_rfl
theorem Sr (a : CZ) : CZ.mk a.c a.z = a := rfl
theorem PP (c : Cht) : (Kb c).length = c.ms.length := rng_length _ _
theorem H4 : AR Try.prog J1 (C_times.spec D6) := Bl C_times (λ _ => AWD) [] [] BCE (λ _ => by kernel_rfl) (λ _ => AC ALW (AC BDC (AC ATC AI))) (λ (w : Dk) h => by
 obtain ⟨h1, h2, h3⟩ : 1 <= w.c.ms.length /\ w.c.ms.length <= 40 /\ nsIn w.c := h
 show AXM w; rw [BBU]<;> delta LV He CI CH FE EE FH CL GY AF CV DC AS IA CG CW FG HU KV JT HP GG IQ IV IX JU GZ GM HK LC Eb pQ LX OE DF MA AG ID aC Vn Td wN AH DD EL EW GS AK BN BQ CF AJ HR GI BU FT WY BJ KB AN AM BV AZ CD BR JD BL AO DZ EI NO DV DI CB GN AT BB EP HD BO DG DY AP BT BA ED AW BE XT FZ Ua CX AV FN GF FA DB CM NC GR JF KU PN EU GQ BD wV TY NT BI Et TW FX IT EK GA UJ CS GD UE GJ EC HQ JH WX Be EA FY MW XD JY BC KO MB LY Bc BF CA DK FU BG FP HB RA KT KX LJ GT KR LI YH JX NA Dq Wq DQ Jd JN DE QN CE BM DT DA EX VM WP ME KI UP WQ EZ HT VH TD JO DX TU EJ JM UU WS QK EN FI EY UW Ot UQ DP WK KJ EM MD SG TN TZ WM GC YT QO YU Bv pA Ks RE OH Aw ZX RV NN TE NY; simp only [CC, eq_self, implies_true, forall_const, DW, Rm]
 refine ⟨⟨h1, h2⟩, λ h => ?_, λ h => ⟨⟨⟨h1, h2, h3⟩, PP _, h1, h2⟩, ?_⟩⟩
 ·unfold HV; rw [h]; exact ⟨rfl, rfl, rfl⟩
 ·unfold HV; rw [h]; exact ⟨rfl, λ _ _ => ⟨rfl, rfl⟩, rfl⟩) (λ _ => Ec rfl rfl) _
def FO (a : CZ) : Int := bif BS a.c == 0 then bif okZ a then bif (HV (JB a)).2 then 0 else 6 else 2 else BS a.c
def C_rdO : Ctr := { α := CZ, xs := xCZ, val := λ a => .tup [.bptr 0 0, .d (CK (HV (JB a)).1), .d (CK (FK a.c)), .int 0], keep := λ a => dkN (JB a), pre := λ a => [(a.c.ms.length < 4611686018427387904 /\ a.c.ns.length < 4611686018427387904 /\ a.z.length < 4611686018427387904) /\ FO a = 0] }
def C_rdX : Ctr := { α := CZ, xs := xCZ, val := λ a => .tup [.d (.v (.pointer none)), .d WH, .d WH, .int (FO a)], keep := λ _ => [], pre := λ a => [(a.c.ms.length < 4611686018427387904 /\ a.c.ns.length < 4611686018427387904 /\ a.z.length < 4611686018427387904) /\ FO a ≠ 0] }
def A_rd : Ann := ann 38 [(gC, C_beg.spec dCZ), (J1, C_times.spec D6), (AQY, C_all.spec D6)]
def BMT : Ann := ann 38 [(gC, C_begX.spec dCZ)]
def BNS (a : CZ) : Prop := CR Try.prog A_rd C6 (AL C6) (xCZ a) (AE []) (C_rdO.val a) (C_rdO.keep a) [(0, 2032), (1, 2033)] []
abbrev WO a b (c:Nat->Prop) d:=BH a b (AF c) d
abbrev Hc a b:=CZ.mk a (EQ b)
abbrev ACL a b:=FJ (Hc a b)
abbrev BK a:=ACL (Pi a a a) (YR a)
abbrev Fv a:=Hc (SP a) (YR a)
abbrev NR a:=UI (Fv a)
abbrev bR a:=DG (BK a)
abbrev B7 a:=Wq (UI a)
abbrev fE a:=BB (BK a)
abbrev dI a:=BA (BK a)
abbrev dW a:=AV (BK a)
abbrev cJ a:=AW (BK a)
abbrev cB a:=AT (BK a)
abbrev UV a b c:=AH (IB a) b c
abbrev PQ a b:=UV a (YY b) (EG (FV (Gv b)))
abbrev PH a b:=JL a (Gv b) (YR b)
attribute [go_sem] WO Hc ACL BK Fv NR bR B7 fE dI dW cJ cB UV PQ PH
theorem BQT (a : CZ) : (BNS a) = (JR (AT (DU a)) (AW (DU a)) (AV (DU a)) (BA (DU a)) (FM (BB (DU a)) (BF (DU a)) (BM (DU a)) (Cd a a) (λ i=>MG i a (WW a i) (UL a i) (VK a i)) (OA a) (λ i=>PH i a) (PQ (DU a) a) (EV (Az a))) (EZ (IE (XJ (Fv a))) OW (GH (cB a) (cJ a) (dW a) (dI a) (fE a) (BF (BK a)) (NY (BK a) (λ i=>BC i (BK a) (BG (BK a) i) (BD (BK a) i) (AP (BK a) i) (AZ (BK a) i) (AO (BK a) i) (BE (BK a) i) (AM (BK a) i)) (KJ (NR a)) BI (EN (BK a)) (HB (NR a)) (EM (BK a)) (RV (BK a) (AN (EJ (BK a)) (KJ (NR a)) BI (EY (BK a)) (HB (NR a)) (GC (BK a)) (QO (BK a)) (MD (BK a)) (DF (λ i=>HQ (WX (BK a) i) (CS i (ED (BK a))))))))) (FG (not (wN (Td (ZX (bR a) (NR a))))) OW (WO (DA (cB a) (cJ a) (dW a) (dI a) (fE a) (KO (BF (BK a)) (λ i=>CE i (BK a)) (CA (BK a)) (λ i=>BC i (BK a) (BG (BK a) i) (BD (BK a) i) (AP (BK a) i) (AZ (BK a) i) (AO (BK a) i) (BE (BK a) i) (AM (BK a) i)) (λ i=>FU i (NR a)) BI (EN (BK a)) (λ i=>JY (NR a) i) (AN (EM (BK a)) (cB a) (cJ a) (dW a) (dI a) (fE a) (DQ (BK a)) (FI (BK a)) (NN (DK (BK a)) (EJ (BK a)) (λ i=>FU i (NR a)) (EY (BK a)) (NR a) (GC (BK a)) (QO (BK a)) (MD (BK a)))))) (HT (B7 a) (Wq (ZX (bR a) (NR a)))) (λ i=>TE i (B7 a) i (Wq (ZX (bR a) (NR a)))) (AN (HT (XL (DU a)) (XL (bR a))) (AF (λ i=>JN i (XL (DU a)) (Pj (DU a) i) (Pj (bR a) i))) CU (RZ (FJ a) (BK a)) (SH (FJ a) (BK a)) (SC (FJ a) (BK a)) (RG (FJ a) (BK a)) (RR (FJ a) (BK a)) (LI (RL (FJ a) (BK a)) (λ i=>RQ i (FJ a) (RF (FJ a) i (BK a) i) i (BK a) i) (SB (FJ a) (BK a)) (λ i=>EP i (FJ a) (SK (SF (FJ a) i (BK a) i) (FJ a) i (AP (BK a) i) i (AO (BK a) i) (AM (BK a) i))) (λ i=>XH i (ID (UI a) i) (ID (NR a) i)) BI (DF (λ i=>UX (FJ a) i (BK a) i)) (λ i=>VD (UI a) i (NR a) i) (λ i=>VF (KB (FJ a) i) (BK a) i (KU (FJ a) i) (FJ a) i))))))) := by kernel_rfl
def BGC (a : CZ) : Prop := CR Try.prog A_rd C6 (AL C6) (xCZ a) (AE []) (C_rdX.val a) [] [] []
abbrev Ho a b c d:=AK a b a c d
abbrev AJK a b c:=Ho a b b c
abbrev Bz a b:=AS (FO a) b
attribute [go_sem] Ho AJK Bz
theorem BMD (a : CZ) : (BGC a) = (JR (AT (DU a)) (AW (DU a)) (AV (DU a)) (BA (DU a)) (FM (BB (DU a)) (BF (DU a)) (BM (DU a)) (Cd a a) (λ i=>MG i a (WW a i) (UL a i) (VK a i)) (OA a) (λ i=>PH i a) (PQ (DU a) a) (EV (Az a))) (DH (IE (XJ (Fv a))) Rc (AJK AU OI (Bz a (XJ (Fv a)))) (And (GH (cB a) (cJ a) (dW a) (dI a) (fE a) (BF (BK a)) (NY (BK a) (λ i=>BC i (BK a) (BG (BK a) i) (BD (BK a) i) (AP (BK a) i) (AZ (BK a) i) (AO (BK a) i) (BE (BK a) i) (AM (BK a) i)) (KJ (NR a)) BI (EN (BK a)) (HB (NR a)) (EM (BK a)) (RV (BK a) (AN (EJ (BK a)) (KJ (NR a)) BI (EY (BK a)) (HB (NR a)) (GC (BK a)) (QO (BK a)) (MD (BK a)) (DF (λ i=>HQ (WX (BK a) i) (CS i (ED (BK a))))))))) (DH (not (wN (Td (ZX (bR a) (NR a))))) Rc (AJK AU OI (Bz a 6)) (And (DA (cB a) (cJ a) (dW a) (dI a) (fE a) (KO (BF (BK a)) (λ i=>CE i (BK a)) (CA (BK a)) (λ i=>BC i (BK a) (BG (BK a) i) (BD (BK a) i) (AP (BK a) i) (AZ (BK a) i) (AO (BK a) i) (BE (BK a) i) (AM (BK a) i)) (λ i=>FU i (NR a)) BI (EN (BK a)) (λ i=>JY (NR a) i) (AN (EM (BK a)) (cB a) (cJ a) (dW a) (dI a) (fE a) (DQ (BK a)) (FI (BK a)) (NN (DK (BK a)) (EJ (BK a)) (λ i=>FU i (NR a)) (EY (BK a)) (NR a) (GC (BK a)) (QO (BK a)) (MD (BK a)))))) OW))))) := by kernel_rfl
def BHE (a : CZ) : Prop := CR Try.prog BMT C6 (AL C6) (xCZ a) (AE []) (C_rdX.val a) [] [] []
theorem BMA (a : CZ) : (BHE a) = (JR (AT (DU a)) (AW (DU a)) (AV (DU a)) (BA (DU a)) (FM (BB (DU a)) (BF (DU a)) (BM (DU a)) (Cd a a) (λ i=>MG i a (WW a i) (UL a i) (VK a i)) (OA a) (λ i=>PH i a) (PQ (DU a) a) (PJ (Az a))) (DH (IE (XJ (Fv a))) Rc (AJK AU OI (Bz a (XJ (Fv a)))) OW)) := by kernel_rfl
theorem aQ (a : CZ) : Dk.mk a.c (JB a).st (JB a).sp = JB a := rfl
theorem cM {c : Cht} (h : BS c = 0) : nsIn c /\ ∀ n ∈ c.ns, RY n c.ms.length = true := by
 obtain ⟨h1, ⟨h2, h3⟩, h4⟩ := PE h
 have hr : c.ns.all (λ n => RY n c.ms.length) = true := by
  cases hq : c.ns.all (λ n => RY n c.ms.length) with
  | true => rfl
  | false =>
   unfold BS at h
   rw [h1, hq] at h
   cases hm : (M9 (-1) c.ms != 0) with
   | true =>
    rw [hm] at h
    have h : M9 (-1) c.ms = 0 := h
    rw [h] at hm; cases hm
   | false => rw [hm] at h; cases h
 refine ⟨λ j hj => ?_, λ n hn => List.all_eq_true.1 hr n hn⟩
 unfold hasN at hj
 obtain ⟨x, hx, e⟩ := List.any_eq_true.1 hj
 have e : x.mi = j := by simpa using e
 have := List.all_eq_true.1 hr x hx
 unfold RY TM wr at this
 rw [NU (by omega) (by omega)] at this
 simp only [Bool.and_eq_true, decide_eq_true_eq] at this
 omega
theorem Vl {a : CZ} (h : FO a = 0) : BS a.c = 0 /\ okZ a = true /\ (HV (JB a)).2 = true := by
 unfold FO at h
 cases h1 : (BS a.c == 0) with
 | false => rw [h1] at h; have h : BS a.c = 0 := h; rw [h] at h1; cases h1
 | true =>
  rw [h1] at h
  cases h2 : okZ a with
  | false => rw [h2] at h; cases h
  | true =>
   rw [h2] at h
   cases h3 : (HV (JB a)).2 with
   | false => rw [h3] at h; cases h
   | true => exact ⟨by simpa using h1, rfl, rfl⟩
theorem AMO : AR Try.prog Sv (C_rdO.spec dCZ) := Bl C_rdO (λ _ => A_rd) [(0, 2032), (1, 2033)] [] AMN (λ _ => by kernel_rfl) (λ _ => AC ASN (AC H4 (AC ALW AI))) (λ (a : CZ) h => by
 obtain ⟨h1, h2⟩ : (a.c.ms.length < 4611686018427387904 /\ a.c.ns.length < 4611686018427387904 /\ a.z.length < 4611686018427387904) /\ FO a = 0 := h
 obtain ⟨c0, c1, c2⟩ := Vl h2
 have e : Na a = 0 := by unfold Na; rw [c0, c1]; rfl
 have hl := PE c0
 have hn := (cM c0).1
 show BNS a; rw [BQT]<;> delta LV CI CH FE EE FH CL GY AF CV DC AS IA CG UB CW FG HU KV JT HP GG IQ IV IX JU GZ GM HK LC FV ET XS LX VO PX OW OE DF MA AG ID DU YR XJ UI XL Td wN AH DD EL EW GS AK FJ BN BQ UL CF SO AJ HR GI EQ FT BJ KB AN AM BV AZ CD Hc BR JD BL AO ACL DZ EI NO DV DI CB GN AT BB EP HD BO Mt DG DY AP BT BA ED AW BE XT FZ LZ CX Pi AV FN GF FA CM NC GR JF KU PN GQ BD FL wV TY NT BH BI Et EG TW FX IT EK Pj CS GD SP BK UE GJ EC HQ WX OD Be EA CQ FY FM MW JY OC BC KO MB IL LY Bc BF CA DK Fv FU BG NQ HB RA KT KX LJ GT KR QD LI JX WW NR NA Dq Gv CU Mm EV GH Wq DQ JL Iz Jd SK JN CE BM DT IB DA VM WP KI UP WQ EZ HT VH TD DX TU EJ UU WS EN FI EY UW IE UQ WK KJ EM MD YY JR UV TZ GC SD QO RL Jq RZ SB Az Ju RR OA PQ PH TA Kq Rf SC SH RG UX RF SF VK VD RE ZX RH MG RV NN VF RQ XH Cd B7 WO dW cJ TE NY dI bR fE cB; simp only [CC, eq_self, implies_true, forall_const, DW, Rm, dH, Sr, aQ, e, c2]
 exact ⟨⟨h1, c0⟩, (λ h => by simp at h), λ _ => ⟨⟨by omega, by omega, hn⟩, (λ h => by cases h), by omega, by omega⟩⟩) (λ _ => Ec rfl rfl) _
theorem AMD : AR Try.prog Sv (C_rdX.spec dCZ) := okT C_rdX (λ (a : CZ) h => by
 obtain ⟨h1, h2⟩ : (a.c.ms.length < 4611686018427387904 /\ a.c.ns.length < 4611686018427387904 /\ a.z.length < 4611686018427387904) /\ FO a ≠ 0 := h
 by_cases c0 : BS a.c = 0
 ·have e : Na a = bif okZ a then 0 else 2 := by unfold Na; rw [c0]; rfl
  have e2 : FO a = bif okZ a then bif (HV (JB a)).2 then 0 else 6 else 2 := by unfold FO; rw [c0]; rfl
  have hl := PE c0
  have hn := (cM c0).1
  refine Ky (A := A_rd) (L := []) (keep := []) (ren := []) (fz := []) AMN (by kernel_rfl) (AC ASN (AC H4 (AC ALW AI))) ?_
  show BGC a; rw [BMD]<;> delta LV He CI CH FE EE FH CL AF CV DC AS CG CW FG HU KV JT HP GG IQ IV IX JU GZ GM HK LC FV ET XS LX VO PX OW OE DF MA AG ID DU YR XJ UI Td wN AH DD EL EW GS AK FJ BN BQ UL CF SO AJ HR GI EQ BU FT Ho AJK BJ KB AN AM BV AZ CD Hc BR JD BL AO ACL DZ EI NO DV DI CB GN AT BB EP HD BO Mt DG DY AP BT BA ED AW BE XT FZ LZ CX Pi AV FN GF FA CM NC GR JF KU PN GQ BD FL wV TY BI Et EG TW FX IT EK CS GD SP BK UE GJ EC HQ WX DH Be EA CQ AU FY FM MW JY OC BC KO MB IL LY Bc BF CA DK Fv FU BG NQ HB RA KT KX LJ GT KR QD JX WW NR Dq Gv Mm EV GH DQ JL Jd CE BM DT IB DA VM WP KI UP WQ DX TU EJ UU WS EN FI EY UW IE UQ WK KJ EM MD YY JR UV TZ GC SD QO OI Az OA PQ PH TA VK RE ZX RH MG Bz RV NN Cd dW cJ Rc NY dI bR fE cB; simp only [CC, eq_self, implies_true, forall_const, DW, Rm, dH, Sr, aQ, e]
  rw [e2] at h2 ⊢
  refine ⟨⟨h1, c0⟩, ?_⟩
  cases ho : okZ a with
  | false => exact ⟨λ _ => rfl, λ h => by simp at h⟩
  | true =>
   rw [ho] at h2
   cases hq : (HV (JB a)).2 with
   | false => exact ⟨λ h => by simp at h, λ _ => ⟨⟨by omega, by omega, hn⟩, λ _ => rfl, λ h => by cases h⟩⟩
   | true => rw [hq] at h2; exact absurd rfl h2
 ·have c0' : (BS a.c == 0) = false := by simpa using c0
  have e : Na a = BS a.c := by unfold Na; rw [c0']; rfl
  have e2 : FO a = BS a.c := by unfold FO; rw [c0']; rfl
  refine Ky (A := BMT) (L := []) (keep := []) (ren := []) (fz := []) AMN (by kernel_rfl) (AC AYQ AI) ?_
  show BHE a; rw [BMA]<;> delta LV He CI CH FE EE FH CL AF CV DC AS FG JT HP GG IQ IV IX JU GZ GM HK LC FV ET XS VO PX OW OE DU YR XJ AH DD EL EW GS AK BN BQ UL CF SO AJ GI EQ BU FT Ho AJK BJ AN BV CD Hc BR JD BL DZ EI DI CB GN AT BB BO Mt DY BT BA ED AW LZ Pi AV GF FA CM GR PN GQ FL EG GD SP GJ EC DH EA CQ AU FY FM OC IL BF Fv NQ GT QD WW Gv Mm JL CE BM IB IE YY JR UV SD OI Az PJ OA PQ PH TA VK RH MG Bz Cd Rc; simp only [CC, eq_self, implies_true, forall_const, DW, Sr, e, e2]
  simp [h1, c0]) _
def D5 (a : CZ) : List Span × Int := bif FO a == 0 then ((HV (JB a)).1, 0) else ([], FO a)
def C_Times : Ctr := { α := CZ, xs := xCZ, val := λ a => .tup [.d (CK (D5 a).1), .int (D5 a).2], keep := λ _ => [], pre := λ a => [a.c.ms.length < 4611686018427387904 /\ a.c.ns.length < 4611686018427387904 /\ a.z.length < 4611686018427387904] }
def BMW : Ann := ann 20 [(Sv, C_rdO.spec dCZ)]
def BPD : Ann := ann 20 [(Sv, C_rdX.spec dCZ)]
def BNY (a : CZ) : Prop := CR Try.prog BMW M2 (AL M2) (xCZ a) (AE []) (.tup [.d (CK (HV (JB a)).1), .int 0]) [] [] []
abbrev Cr a:=Wq (NR a)
abbrev YX a:=FO (Fv a)
attribute [go_sem] Cr YX
theorem BQW (a : CZ) : (BNY a) = (WO (AK (AT (DU a)) (AW (DU a)) (AV (DU a)) (BA (DU a)) (FM (BB (DU a)) (BF (DU a)) (BM (DU a)) (Cd a a) (λ i=>MG i a (WW a i) (UL a i) (VK a i)) (OA a) (λ i=>PH i a) (PQ (DU a) a) (EV (YX a)))) (HT (B7 a) (Cr a)) (λ i=>TE i (B7 a) i (Cr a)) CU) := by kernel_rfl
def BNL (a : CZ) : Prop := CR Try.prog BPD M2 (AL M2) (xCZ a) (AE []) (.tup [.d (CK nilS), .int (FO a)]) [] [] []
theorem BRD (a : CZ) : (BNL a) = (JR (AT (DU a)) (AW (DU a)) (AV (DU a)) (BA (DU a)) (FM (BB (DU a)) (BF (DU a)) (BM (DU a)) (Cd a a) (λ i=>MG i a (WW a i) (UL a i) (VK a i)) (OA a) (λ i=>PH i a) (PQ (DU a) a) (PJ (YX a))) (ZT AU (Bz a (YX a)))) := by kernel_rfl
theorem APP : AR Try.prog ADM (C_Times.spec dCZ) := okT C_Times (λ (a : CZ) h => by
 have h1 : a.c.ms.length < 4611686018427387904 /\ a.c.ns.length < 4611686018427387904 /\ a.z.length < 4611686018427387904 := h
 by_cases c0 : FO a = 0
 ·have e : C_Times.val a = .tup [.d (CK (HV (JB a)).1), .int 0] := by
   show AVal.tup [.d (CK (D5 a).1), .int (D5 a).2] = _
   unfold D5; rw [c0]; rfl
  rw [e]
  refine Ky (A := BMW) (L := []) (keep := []) (ren := []) (fz := []) AOZ (by kernel_rfl) (AC AMO AI) ?_
  show BNY a; rw [BQW]<;> delta CI CH FE EE FH CL GY AF CV DC AS IA UB JT HP GG IQ IV IX JU GZ GM HK LC FV ET XS DU YR UI Td AH DD EL EW GS AK BN BQ UL CF SO AJ GI EQ BJ AN BV CD Hc BR JD BL DZ EI DI CB GN AT BB BO Mt DY BT BA ED AW LZ Pi AV GF FA CM GR GQ FL NT BH EG GD SP GJ EC OD EA CQ FY FM OC IL BF Fv NQ GT QD WW NR NA Gv CU Mm EV Wq JL JN CE BM IB HT VH TD YX YY UV SD Cr OA PQ PH TA VK RH MG Cd B7 WO TE; simp only [CC, eq_self, implies_true, forall_const, DW, Sr]
  simp [h1, c0]
 ·have c0' : (FO a == 0) = false := by simpa using c0
  have e : C_Times.val a = .tup [.d (CK nilS), .int (FO a)] := by
   show AVal.tup [.d (CK (D5 a).1), .int (D5 a).2] = _
   unfold D5; rw [c0']; rfl
  rw [e]
  refine Ky (A := BPD) (L := []) (keep := []) (ren := []) (fz := []) AOZ (by kernel_rfl) (AC AMD AI) ?_
  show BNL a; rw [BRD]<;> delta CI CH FE EE FH CL AF CV DC AS JT HP GG IQ IV IX JU GZ GM HK LC FV ET XS DU YR AH DD EL EW GS AK BN BQ UL CF SO AJ GI EQ BU ZT BJ AN BV CD Hc BR JD BL DZ EI DI CB GN AT BB BO Mt DY BT BA ED AW LZ Pi AV GF FA CM GR GQ FL EG GD SP GJ EC EA CQ AU FY FM OC IL BF Fv NQ GT QD WW Gv Mm JL CE BM IB YX YY JR UV SD PJ OA PQ PH TA VK RH MG Bz Cd; simp only [CC, eq_self, implies_true, forall_const, DW, Sr]
  simp [h1, c0, nilS]) _
end Go.Bal
