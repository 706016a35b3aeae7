/- Package rating: Dry. -/
import Derived.Test.YtoihhodbkimedaaRatO
set_option linter.unusedVariables false
set_option linter.unusedSimpArgs false
namespace Go.Bal
open Go Go.Sym Go.Proofs
def dryM (a : GB) : Span × Int := bif DQ a == 0 then (bif decide ((lnK a 0).length = 0) then (default, 6) else (⟨upMO wV ⟨PE a, 0⟩, upMO xB ⟨PE a, 0⟩⟩, 0)) else (default, DQ a)
def C_Dry : Ctr := { α := GB, xs := xGB, L := λ _ => [], val := λ x => .tup [.d (AUB (dryM x).1), .int (dryM x).2], keep := λ _ => [], pre := λ x => [preB x /\ True] }
def G_dy (c : Sym.Spec) : List (FuncId × Sym.Spec) := [(Sb, c), (Y0, C_lns.spec dBkS), (J5, orS ((cL wV Pc).spec (dUpO Pc)) ((cL xB Oq).spec (dUpO Oq)))]
def CAE : Ann := ann 31 (G_dy (C_open.spec dGB))
def CAZ : Ann := { ann 31 (G_dy (C_openX.spec dGB)) with cut := λ id => if id = 4 then some [] else none }
def CAH (x : GB) : Prop := CH Try.prog CAE BAP (AI BAP) (xGB x) (AD []) (C_Dry.val x) [] [] []
abbrev MM a:=AZA (HZ a) 0
abbrev Up a:=WI (HZ a)
abbrev NK a:=AZM (Up a) (HZ a) (MM a)
abbrev nQ a:=AQX (dryM a)
abbrev Au a:=Cp (HZ a)
abbrev sA a:=RR (HZ a)
abbrev Aj:=FH 0 0
abbrev kD a:=ABS (HZ a)
abbrev BAQ a b c d:=AJ a a b c d
attribute [go_sem] MM Up NK nQ Au sA Aj kD BAQ
theorem CEO (x : GB) : (CAH x) = (HM (JV (Bj x x) (Ax x x) (ZF x) (TF x) (Bf x) (Bl x) (CD (UT x))) (BAQ Aj (EY (Up x) (HZ x)) (EV (Up x) (HZ x)) (AJ (Nd (Au x) (HZ x)) (MA (Au x) (HZ x)) DO WJ (AQ (HL (HZ x)) (AR (λ i=>BS (kD x) i (HZ x) (λ j=>BT j (kD x) i (BV (kD x) i j (HZ x)) (BX (kD x) i j (HZ x)) (BU (kD x) i j (HZ x)) (BF (kD x) i j) (BF (HZ x) i j)))) (EY (sA x) (MM x)) (EV (sA x) (MM x)) (QQ (HZ x) (MM x)) (IQ (HZ x) (MM x)) (IP (Up x) (Au x) DT) YP (CA 2000)))) (MJ (Jt (U9 (kD x) 0 0 0))) (JB (Mt (nQ x)) (Oa (nQ x)) (Y4 (dryM x)) 6) (AH (DS Aj (EY (Up x) (HZ x)) (EV (Up x) (HZ x)) (Nd (Au x) (HZ x)) (MA (Au x) (HZ x)) DO (AQ (UP (MM x)) (HL (MM x)) (AR (λ i=>BS (NK x) i (MM x) (λ j=>BT j (NK x) i (BV (NK x) i j (MM x)) (BX (NK x) i j (MM x)) (BU (NK x) i j (MM x)) (BF (NK x) i j) (BF (MM x) i j)))) (AW (sA x) (Up x)) (BE (sA x) (Up x)) (Cx (HZ x) (Au x)) (RB (HZ x) (Au x)) DO (AQ (UP (MM x)) (HL (MM x)) (AR (λ i=>BS (MM x) i (NK x) (λ j=>BT j (MM x) i (BV (MM x) i j (NK x)) (BX (MM x) i j (NK x)) (BU (MM x) i j (NK x)) (BF (MM x) i j) (BF (NK x) i j)))) (AH (IP (Up x) (Au x) DT) YP (CA (FP (Au x))) UX) Aj (EY (Up x) (HZ x)) (EV (Up x) (HZ x)) (Nd (Au x) (HZ x)) (AQ (MA (Au x) (HZ x)) DO (UP (MM x)) (HL (MM x)) (AR (λ i=>BS (NK x) i (MM x) (λ j=>BT j (NK x) i (BV (NK x) i j (MM x)) (BX (NK x) i j (MM x)) (BU (NK x) i j (MM x)) (BF (NK x) i j) (BF (MM x) i j)))) (AW (sA x) (Up x)) (BE (sA x) (Up x)) (Cx (HZ x) (Au x)) (MH (RB (HZ x) (Au x)) DO (UP (MM x)) (HL (MM x)) (AR (λ i=>BS (MM x) i (NK x) (λ j=>BT j (MM x) i (BV (MM x) i j (NK x)) (BX (MM x) i j (NK x)) (BU (MM x) i j (NK x)) (BF (MM x) i j) (BF (NK x) i j)))) (IP (Up x) (Au x) DT) YP (FP (Au x)) UX))))) (AO (Zy (nQ x)) (Ul wV (BkI.mk (NK x) 0))) (AO (La (nQ x)) (Ul xB (BkI.mk (NK x) 0))) (CD (Y4 (dryM x))))) := by kernel_rfl
def BYV (x : GB) : Prop := CH Try.prog CAZ BAP (AI BAP) (xGB x) (AD []) (C_Dry.val x) [] [] []
theorem CEQ (x : GB) : (BYV x) = (AE (JV (Bj x x) (Ax x x) (ZF x) (TF x) (Bf x) (Bl x) (Bm (UT x))) (FA (KO (UT x)) (JB (Mt (nQ x)) (Oa (nQ x)) (Y4 (dryM x)) (UT x)) WQ) EF) := by kernel_rfl
theorem CHR (x : GB) (h : preB x) (hE : DQ x = 0) : CAH x := by
 rw [CEO]<;> delta KY Dc GH HK FK KZ KR LU MC PN FA AO AT CX AG CG CM EM BK DB DW DT PQ YC TU DM GP XV XJ Cr RR RQ ZE AR Ii Bw GE MO Zy La TF DJ Cs Lz Lm Ul AQX Y4 KK AE KC AJ AP NV AU AK JQ ZD bR BAQ QS WI AX AJL Ib AQ AH Uu Jr BH CY Wy rZ BN CL CZ CA FT GI BB Ek rH HI ZF HZ AZM hP CQ EP DF FP FC NT DG EN AW BF DE DN EO Kp ZI DS DY Lb CD LI Ls Cp AZA ABS EU FE TC DV HP FG Jo CE CO JN QF DO MN Fc Lj Up MM FB UP FH BE XF LO MS BS JC LA Ef HL MU BT UG EV SG BU BX BV YT EY UX U9 RB FW SM MD Au HM IQ NK Jt MA YP KM JB MJ QQ IP Aj WJ UT JV Tv Uk MH Cx Bl Bf Oa Mt Ax Bj Nd kD nQ sA; simp only [CC, eq_self, implies_true, forall_const, Ec, Rj, xN, xP, Rn, if_true]
 have hb : XS x.g x.b := AAZ hE
 have e0 : DQ x == 0 := by rw [hE]; rfl
 refine ⟨⟨h.1, h.2, hE⟩, ⟨rfl, rfl, hb, by omega, by omega⟩, λ hc => ?_, λ hc => ⟨⟨rfl, ⟨hb, by omega, by omega⟩, rfl, hb, by omega, by omega⟩, ?_⟩⟩
 ·have hc : ((lnK x 0).length : Int) == 0 := hc
  have e : dryM x = (default, 6) := by
   unfold dryM; rw [e0, decide_eq_true (show (lnK x 0).length = 0 by have := eq_of_beq hc; omega)]; rfl
  rw [e]; exact ⟨rfl, rfl, rfl⟩
 ·have hc : (((lnK x 0).length : Int) == 0) = false := hc
  have e : dryM x = (⟨upMO wV ⟨PE x, 0⟩, upMO xB ⟨PE x, 0⟩⟩, 0) := by
   unfold dryM; rw [e0, decide_eq_false (show ¬(lnK x 0).length = 0 by intro h0; rw [h0] at hc; cases hc)]; rfl
  rw [e]; exact ⟨rfl, rfl, rfl⟩
theorem CGV (x : GB) (h : preB x) (hE : DQ x ≠ 0) : BYV x := by
 rw [CEQ]<;> delta GH HK FK Tu FA AO AT CX AG CG CM EM PQ WQ DM GP EF Zy La TF Cs Lm AQX Y4 KK AE KC AJ AP AU QS AX Jr BH CY rZ BN CL CZ FT GI BB HI ZF CQ DF FC DG EN AW DE DN EO DS DY CD EU FE DV HP FG CE CO MN FB BE JC KO FW SM KM JB Bm UT JV Tv Uk Bl Bf Oa Mt Ax Bj nQ; simp only [CC, eq_self, implies_true, forall_const, Ec, Rj, xN, xP, Rn, if_true]
 have hE : DQ ⟨x.g, x.b⟩ ≠ 0 := hE
 have e0 : (DQ ⟨x.g, x.b⟩ == 0) = false := by simpa using hE
 refine ⟨⟨h.1, h.2, hE⟩, λ _ => ?_, λ hc => ?_⟩
 ·have e : dryM x = (default, DQ x) := by unfold dryM; rw [show (DQ x == 0) = false from e0]; rfl
  rw [e]; exact ⟨rfl, rfl, rfl⟩
 ·exact hE (by simpa using hc)
theorem CCI : AL Try.prog BTR (C_Dry.spec dGB) := Ctr.spec_ok (C := C_Dry) (λ (x : GB) h => by
 have h : preB x := (show preB x /\ True from h).1
 by_cases hE : DQ x = 0
 ·exact Lg (A := CAE) (L := []) (keep := []) (ren := []) (fz := []) BQR (by kernel_rfl) (AB AAE (AB AEO (AB (ADT BKF BJQ) AF))) (CHR x h hE)
 ·exact Lg (A := CAZ) (L := []) (keep := []) (ren := []) (fz := []) BQR (by kernel_rfl) (AB Y1 (AB AEO (AB (ADT BKF BJQ) AF))) (CGV x h hE)) _
end Go.Bal
