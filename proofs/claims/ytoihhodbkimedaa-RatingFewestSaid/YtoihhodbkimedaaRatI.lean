/- Package rating: bounds of a flow. -/
import Derived.Test.YtoihhodbkimedaaRatH
set_option linter.unusedVariables false
set_option linter.unusedSimpArgs false
namespace Go.Bal
open Go Go.Sym Go.Proofs
def bndM (l : List Ln) (t : Int) : Bnd := bif decide (l.length = 0) then default else ⟨JP (Yi xH t l) t, JP (Yi xV t l) t⟩
def dBkt : List AVal -> Heap -> Option (BkT × List (Nat × Nat) × List Nat)
 | [.bptr id _, .d t], H => match ATV H id with
  | some (w, q) => some (⟨w, JD t⟩, [(100, id), (101, q)], [])
  | none => none
 | _, _ => none
def C_bnd : Ctr := { ro := [100], α := BkT, xs := λ a => [.bptr 100 0, .int a.st], L := λ a => bkL a.w, val := λ a => .tup [.d (eBnd (bndM (lB a) a.st)), .bool (decide ((lB a).length ≠ 0))], keep := λ a => bkK (WB a.w (kB a)), pre := λ a => [XS a.w.g a.w.b /\ 0 <= a.st /\ a.st <= 2000] }
def BZF : Ann := { ann 36 [(BDR, C_less.spec d0), (BFC, C_more.spec d0), (AWY, orS ((Jg xH ZH).spec (dBkT ZH)) ((Jg xV ZM).spec (dBkT ZM))), (AKV, BEQ)] with E := [100, 101] }
def CAS (a : BkT) : Prop := CH Try.prog BZF ARB (AI ARB) (C_bnd.xs a) (AD (C_bnd.L a)) (C_bnd.val a) (C_bnd.keep a) [] []
abbrev iD a b:=qY a (BkT.mk a b)
abbrev BJL a b:=iD a (VR b)
abbrev bD a:=BJL (WG a) a
abbrev dI a:=Wy (Lw a) (US a) (GQ a) (bD a) (bD a)
abbrev VJ a:=BJL (dI a) a
abbrev qZ a b c:=ADY (GE a) b c a
abbrev xF a b:=lB (BkT.mk a b)
abbrev AWB a b:=xF a (VR b)
abbrev AQR a:=AWB (dI a) a
abbrev eG a b:=bndM (lB a) (VR b)
abbrev AER a:=AWB (WG a) a
attribute [go_sem] iD BJL bD dI VJ qZ xF AWB AQR eG AER
theorem CBX (a : BkT) : (CAS a) = (HM (BI (Dh a) (Kd (Lw a) a) (Jw (Lw a) a) (BB (XQ a) (US a)) (MA (XQ a) (GQ a)) DO (UP (GQ a)) (MH (HL (GQ a)) (AR (λ i=>BS (WG a) i (GQ a) (λ j=>BT j (WG a) i (BV (WG a) i j (GQ a)) (BX (WG a) i j (GQ a)) (BU (WG a) i j (GQ a)) (BF (WG a) i j) (BF (GQ a) i j)))) (EY (bS a) (bD a)) (EV (bS a) (bD a)) (AT (US a) (NV (bD a))) (YT (US a) (GQ a) (RQ (bD a))) (IP (Lw a) (XQ a) DT) (VR a) (Wh a))) (BI (Dh a) (Kd (Lw a) a) (Jw (Lw a) a) (BB (XQ a) (US a)) (MA (XQ a) (GQ a)) DO (UP (bD a)) (MH (HL (bD a)) (AR (λ i=>BS (dI a) i (bD a) (λ j=>BT j (dI a) i (BV (dI a) i j (bD a)) (BX (dI a) i j (bD a)) (BU (dI a) i j (bD a)) (BF (dI a) i j) (BF (bD a) i j)))) (EY (bS a) (VJ a)) (EV (bS a) (VJ a)) (AT (US a) (NV (VJ a))) (YT (US a) (GQ a) (RQ (VJ a))) (IP (Lw a) (XQ a) DT) (VR a) (Wh a))) (not (rU (GE (AER a)))) (AJ (CD (GW (eG a a))) (CD (GY (eG a a))) (CD (HB (eG a a))) (CD (GX (eG a a))) (MW (ME (dU a)) (Kd (Lv a) a) (Jw (Lv a) a) (UG (BZ a) (US a)) (IQ (BZ a) (GQ a)) (AR (λ i=>NL (BZ a) i (VJ a) i)) (HN (BZ a) (VJ a)) (λ i=>BS (BZ a) i (VJ a) (λ j=>BT j (BZ a) i (BV (BZ a) i j (VJ a)) (BX (BZ a) i j (VJ a)) (BU (BZ a) i j (VJ a)) (Ei a i j) (BF (VJ a) i j))))) (AY (LI (NP (qZ (AER a) xH a)) (IG (VR a) (Wh a)) (NP (qZ (AQR a) xV a)) (CA (VR a)) (VR a) 2000) (AO (GW (eG a a)) (SL (Ui (qZ (AER a) xH a) a))) (AO (GY (eG a a)) (RN (Ui (qZ (AER a) xH a) a))) (AO (HB (eG a a)) (SL (Ui (qZ (AQR a) xV a) a))) (AO (GX (eG a a)) (RN (Ui (qZ (AQR a) xV a) a))) (MW (LW (dU a)) (Kd (Lv a) a) (Jw (Lv a) a) (UG (BZ a) (US a)) (IQ (BZ a) (GQ a)) (AR (λ i=>NL (BZ a) i (VJ a) i)) (HN (BZ a) (VJ a)) (λ i=>BS (BZ a) i (VJ a) (λ j=>BT j (BZ a) i (BV (BZ a) i j (VJ a)) (BX (BZ a) i j (VJ a)) (BU (BZ a) i j (VJ a)) (Ei a i j) (BF (VJ a) i j)))))) := by kernel_rfl
theorem BMA (w : Bk) (k : Int) : WB (WB w k) k = WB w k := Wn (by show XI w.has k k = true; simp [XI])
theorem Rn (a : BkT) : BkT.mk a.w a.st = a := rfl
theorem Rj (w : Bk) (k : Int) : Bk.mk w.g w.b (WB w k).has (WB w k).st = WB w k := rfl
theorem xN (w : Bk) (k : Int) : (WB w k).g = w.g := rfl
theorem xP (w : Bk) (k : Int) : (WB w k).b = w.b := rfl
theorem CHM (a : BkT) (k : Int) : kB ⟨WB a.w k, a.st⟩ = kB a := rfl
theorem CGF (a : BkT) (k : Int) : lB ⟨WB a.w k, a.st⟩ = lB a := rfl
theorem CGL (a : BkT) (h : XS a.w.g a.w.b) (h2 : 0 <= a.st /\ a.st <= 2000) : CAS a := by
 rw [CBX]<;> delta KY Dc GH HK FK KZ KR LU MC PN FA AO AT CX AG CG CM EM DB DW DT PQ SL RN bJ bN DM GP XV XJ Cr Is RR RQ ZE AR Ii Bw GE MO Lz GQ VR KK AE KC AJ AP NV AU AK JQ ZD WI AX US Ib qY AQ AH Uu BH Lw CY Wy BN CL CZ CA FT GI BB IG Ek iD HI CQ EP DF FC NT xF DG EN AW AY BF LW DE DN EO Kp ZI DY Lb CD LI Ls BJL BZ EU FE XQ TC DV WG HP FG Jo CE JN QF PK bS DO Fc Lv Lj bD FB UP BE XF LO GX GW BI MS BS LA GY HB AWB Ef HL MU ME BT UG EV dI SG BU BX BV YT EY ADY OW RB MD MW HM IQ AER AQR HN MA VJ NL qZ IP Dh Ei Jw Kd MH eG Ui rU NP Wh dU; simp only [CC, eq_self, implies_true, forall_const, Ec, Rj, xN, xP, Rn, CHM, CGF, BMA, if_true]
 obtain ⟨_, hok⟩ := BNK h
 unfold bndM
 refine ⟨⟨h, h2⟩, ⟨h, h2⟩, λ hc => ?_, λ hc => ?_⟩
 ·rw [decide_eq_true (show (lB a).length = 0 by omega)]
  exact ⟨rfl, rfl, rfl, rfl, hc⟩
 ·rw [decide_eq_false hc]
  have hb : ∀ lt, NJ (Yi lt a.st (lB a)) := λ lt => AGZ ▸ ANR hok (by omega)
  exact ⟨⟨hb _, h2, hb _, h2⟩, rfl, rfl, rfl, rfl, hc⟩
theorem zC : AL Try.prog Xo (C_bnd.spec dBkt) := Ih C_bnd (λ _ => BZF) [] [] BKU (λ _ => by kernel_rfl) (λ _ => AB BWP (AB BWT (AB (ADT BMY BPX) (AB AWO AF)))) (λ (a : BkT) h => by
 have h : XS a.w.g a.w.b /\ 0 <= a.st /\ a.st <= 2000 := h
 exact CGL a h.1 h.2) (λ _ => Jf rfl rfl) _
end Go.Bal
