/- ChartTimes: the law's walk. -/
import Derived.Test.YtdbjalgfomknhaaGreatChZg
set_option linter.unusedVariables false
set_option linter.unusedSimpArgs false
namespace Go.Bal
open Go Go.Sym Go.Proofs
structure TiI where
 a : CZ
 m : Int
 t : Int
 u : Tru
def xTi (x : TiI) : List AVal := [.d (Dj x.a.c), .d (DV x.a.z), .int x.m, .int x.t, .d (eTru x.u)]
def A_Ti : Ann := ann 256 [(AEO, C_big.spec AWK), (ALQ, AVU), (AQX, C_cpC.spec kM), (AMT, C_cpI.spec ALZ), (vQ, C_law.spec kM), (AAY, C_Check.spec kM), (dA, C_Check.spec kM), (xH, C_Stages.spec kM), (oZ, C_Stages.spec kM), (AAE, C_samS.spec dSS2), (AAC, C_hold.spec dCT), (ACC, C_hold.spec dCT), (AAJ, C_Times.spec pZ), (lE, C_Times.spec pZ), (ABS, C_Agr.spec pZ), (lH, C_Tru.spec dTrI), (AFX, C_zTmd.spec dTrI), (AMR, C_smI.spec ALZ), (C2, C_smC.spec AWK)]
def V_Ti (x : TiI) : Prop := CH Try.prog A_Ti ACQ (AH ACQ) (xTi x) (AB []) (.bool true) [] [] []
abbrev Rk:=TiI.a
abbrev AXC:=@BEq.beq Bool (@instBEqOfDecidableEq Bool instDecidableEqBool)
abbrev X7:=TiI.m
abbrev AOZ:=@Prod.snd Tru Int
abbrev Tn a:=vG a 1073741824
abbrev AOU a:=QY (QY a)
abbrev Qi a:=Tru.z (TiI.u a)
abbrev Co a:=AOU (Qi a)
abbrev Me a:=QY (Qi a)
abbrev Qj a:=Tru.s (TiI.u a)
abbrev Cg a:=AOU (Qj a)
abbrev Lh a:=QY (Qj a)
abbrev eP a:=Tru.t (TiI.u a)
abbrev Bs a:=AOU (eP a)
abbrev Ks a:=QY (eP a)
abbrev Ce a:=PF (Rk a)
abbrev Em a:=QY (Ce a)
abbrev FL a:=DO (Rk a)
abbrev Jr a b:=FC (FL a) b
abbrev APR a:=FA (EM (FL a)) (λ i=>Jr a i)
abbrev gB a:=DU (APR a)
abbrev kB a:=DQ (FL a)
abbrev AOF a:=GA (kB a) (EZ (FL a))
abbrev Mm a:=EJ (AOF a)
abbrev Cp a b c:=AU a (gB b) c
abbrev YY a b:=FE (APR a) b
abbrev AEU a b:=ET (YY a b)
abbrev Bx a b:=ES (YY a b)
abbrev AJF a b:=GB (AOF a) b
abbrev ADK a b:=HC (AJF a b)
abbrev Da a b:=GT (AJF a b)
abbrev Hy a b c d e f g h:=SY a b c d (AEU e f) (FU (FL g) h)
abbrev Ii a b:=FT (FL a) b
abbrev Hl a b:=NC (gB a) (FL b)
abbrev Im a b c d e f g h:=DB a (Mm b) c d (ADK e f) (HV (FL g) h)
abbrev Ib a b:=HW (FL a) b
abbrev Ia a b:=BW (Mm a) (kB b)
abbrev Xx a:=AV (FL a)
abbrev Pq a:=AS (FL a)
abbrev Qf a:=AP (FL a)
abbrev Wb a:=AT (FL a)
abbrev Cu a:=AQ (FL a)
abbrev AJW a b:=TrI.mk a (X7 b) (TiI.t b)
abbrev AUQ a b:=HX (EX (FL a)) (FL a) (FL a) (FL a) (AOF b) (APR a)
abbrev AWE a b c:=SW (AUQ a b) c
abbrev Oq a:=AWE a a (Em a)
abbrev K5 a b:=AJW (Oq a) b
abbrev AEF a:=(@Prod.fst Tru Int) (RR (K5 a a))
abbrev iE a:=Tru.t (AEF a)
abbrev Qg a:=AUQ a a
abbrev Sz a b c d:=CT.mk (Qg a) (Tru.mk b c d)
abbrev mT a:=Tru.z (AEF a)
abbrev Ku a:=QY (mT a)
abbrev P8 a:=Tru.s (AEF a)
abbrev aF a:=QY (P8 a)
abbrev cP a:=QY (iE a)
abbrev Qh a:=DT (gB a)
abbrev Nq a b c:=AWE a b (Ce c)
abbrev cL a:=DT (Mm a)
attribute [go_sem] Rk AXC X7 AOZ Tn AOU Qi Co Me Qj Cg Lh eP Bs Ks Ce Em FL Jr APR gB kB AOF Mm Cp YY AEU Bx AJF ADK Da Hy Ii Hl Im Ib Ia Xx Pq Qf Wb Cu AJW AUQ AWE Oq K5 AEF iE Qg Sz mT Ku P8 aF cP Qh Nq cL
theorem BWL (x : TiI) : (V_Ti x) = (HG (LV (FL x) (FL x) (EA (kB x) (FL x)) (λ i=>uH i (kB x) (FL x) i i i) (BE (FL x)) (λ i=>FV i (FL x) (FO (EL (Jr x i) (FL x) i) (FL x) i (FL x) i))) (An (An (bigV (DK (FL x))) (JM (LP (LY (Rk x))) 45) (JM (LP (eP x)) 45)) (JM (LP (Qj x)) 45) (JM (LP (Qi x)) 45)) GF (AO (EW (Cu x) (Wb x) (Qf x) (Pq x) (Xx x) (CM (EA (kB x) (FL x)) (AD (λ i=>uH i (kB x) (FL x) i i i)) (BE (FL x)) (AD (λ i=>FV i (FL x) (FO (EL (Jr x i) (FL x) i) (FL x) i (FL x) i))) (And (LW (kB x)) (LW (DA (FL x)))) (MY (Ce x) (Rk x)) (λ i=>MV i (Ce x) (Rk x)) (Fq (Ce x)) (DC (WS (eP x)) (λ i=>LS i (Ks x) (eP x)) (Fq (Ks x)) (WS (Qj x)) (CW (Lh x) (Qj x)) (Fq (Lh x)) (WS (Qi x)) (CW (Me x) (Qi x)) (Tn (Me x))))) (Fc (Cu x) (FL x) (MD (FL x) (EA (kB x) (FL x)) (AD (λ i=>uH i (kB x) (FL x) i i i)) (BE (FL x)) (λ i=>FV i (FL x) (FO (EL (Jr x i) (FL x) i) (FL x) i (FL x) i)) (DJ (kB x) 42) (DJ (DA (FL x)) 42))) (Ao (Cu x) (FL x) (AK (Xx x) (Ia x x) (AD (λ i=>Im i x (Da x i) (Ib x i) x i x i)) (Hl x x) (AD (λ i=>Cp i x (Hy (YY x i) (Jr x i) (Bx x i) (Ii x i) x i x i))) (And (cL x) (Qh x)) (Cu x) (Wb x) (MD (FL x) (Ia x x) (AD (λ i=>Im i x (Da x i) (Ib x i) x i x i)) (Hl x x) (λ i=>Cp i x (Hy (YY x i) (Jr x i) (Bx x i) (Ii x i) x i x i)) (cL x) (Qh x)))) (Cw (Zp (PW (Qg x))) (xW (Fc (Cu x) (FL x) (MD (FL x) (Ia x x) (AD (λ i=>Im i x (Da x i) (Ib x i) x i x i)) (Hl x x) (λ i=>Cp i x (Hy (YY x i) (Jr x i) (Bx x i) (Ii x i) x i x i)) (cL x) (Qh x))) (Ko (Zp (Tg (Qg x))) (And (JG (WL (Qg x))) (XG (QH (WL (Qg x))) (JG (WL (Qg x))) (La (WL (Qg x))) (La (WL (Qg x)))))) (Cw (cG (Zp (Tg (Qg x))) (samS (SS2.mk (IP (WL (Qg x))) (IP (WL (Qg x)))))) (AE (And (Cu x) (MX (FL x) (Qf x) (Pq x) (Ia x x) (AD (λ i=>Im i x (Da x i) (Ib x i) x i x i)) (Hl x x) (AD (λ i=>Cp i x (Hy (YY x i) (Jr x i) (Bx x i) (Ii x i) x i x i))) (DC (CB (Bs x) (Ks x)) (λ i=>LS i (Bs x) (Ks x)) (CB (Cg x) (Lh x)) (CW (Cg x) (Lh x)) (CB (Co x) (Me x)) (CW (Co x) (Me x)) (SP (Mm x) (Qh x) (FI (Co x))) (FI (Bs x)) (FI (Cg x))))) (And (Cu x) (MX (FL x) (Qf x) (Pq x) (Ia x x) (AD (λ i=>Im i x (Da x i) (Ib x i) x i x i)) (Hl x x) (AD (λ i=>Cp i x (Hy (YY x i) (Jr x i) (Bx x i) (Ii x i) x i x i))) (DC (WS (eP x)) (λ i=>LS i (Ks x) (eP x)) (WS (Qj x)) (CW (Lh x) (Qj x)) (WS (Qi x)) (CW (Me x) (Qi x)) (SP (Mm x) (Qh x) (FI (Me x))) (FI (Ks x)) (FI (Lh x))))) (Cw (cG (NJ (Fd (Sz x (Bs x) (Cg x) (Co x))) (Fd (Sz x (Ks x) (Lh x) (Me x)))) (AXC (So (Sz x (Bs x) (Cg x) (Co x))) (So (Sz x (Ks x) (Lh x) (Me x))))) (AO (EW (Cu x) (Wb x) (Qf x) (Pq x) (Xx x) (DC (Ia x x) (λ i=>Im i x (Da x i) (Ib x i) x i x i) (Hl x x) (AD (λ i=>Cp i x (Hy (YY x i) (Jr x i) (Bx x i) (Ii x i) x i x i))) (CB (Em x) (Ce x)) (CW (Em x) (Ce x)) (cL x) (Qh x) (FI (Em x)))) (EW (Cu x) (Wb x) (Qf x) (Pq x) (Xx x) (DC (Ia x x) (λ i=>Im i x (Da x i) (Ib x i) x i x i) (Hl x x) (AD (λ i=>Cp i x (Hy (YY x i) (Jr x i) (Bx x i) (Ii x i) x i x i))) (MY (Ce x) (Rk x)) (AD (λ i=>MV i (Ce x) (Rk x))) (cL x) (Qh x) (FI (Ce x)))) (Ko (NJ (Ep (Oq x)) (Ep (Nq x x x))) (EW (JG (VC (Oq x))) (QH (VC (Oq x))) (JG (VC (Nq x x x))) (QH (VC (Nq x x x))) (La (VC (Oq x))) (La (VC (Nq x x x))))) (Cw (cG (NJ (Ep (Oq x)) (Ep (Nq x x x))) (samS (SS2.mk (IP (VC (Oq x))) (IP (VC (Nq x x x)))))) (HG (EW (Cu x) (Wb x) (Qf x) (Pq x) (Xx x) (DC (Ia x x) (λ i=>Im i x (Da x i) (Ib x i) x i x i) (Hl x x) (AD (λ i=>Cp i x (Hy (YY x i) (Jr x i) (Bx x i) (Ii x i) x i x i))) (CB (Em x) (Ce x)) (CW (Em x) (Ce x)) (cL x) (Qh x) (FI (Em x)))) (IF (ER (Dx (Ep (Nq x x x)) 6) (IF (JZ (sS (Yf (Oq x)))) (sY (Yf (Oq x))))) (ER (NJ (Ep (Nq x x x)) 6) (cG (NJ (sS (Yf (Oq x))) (Ep (Nq x x x))) (AXC (sY (Yf (Oq x))) (Ig (Ep (Nq x x x))))))) (EF JL) (AE (FX (Cu x) (Wb x) (Qf x) (Pq x) (Xx x) (Ia x x) (AD (λ i=>Im i x (Da x i) (Ib x i) x i x i)) (DC (Hl x x) (λ i=>Cp i x (Hy (YY x i) (Jr x i) (Bx x i) (Ii x i) x i x i)) (CB (Em x) (Ce x)) (CW (Em x) (Ce x)) (AG (X7 x)) (AG (TiI.t x)) (cL x) (Qh x) (FI (Em x)))) (FX (Cu x) (Wb x) (Qf x) (Pq x) (Xx x) (Ia x x) (AD (λ i=>Im i x (Da x i) (Ib x i) x i x i)) (DC (Hl x x) (λ i=>Cp i x (Hy (YY x i) (Jr x i) (Bx x i) (Ii x i) x i x i)) (MY (Ce x) (Rk x)) (AD (λ i=>MV i (Ce x) (Rk x))) (AG (X7 x)) (AG (TiI.t x)) (cL x) (Qh x) (FI (Ce x)))) (Cw (IF (NJ (AOZ (RR (K5 x x))) (Ui (AJW (Nq x x x) x))) (ER (JZ (AOZ (RR (K5 x x)))) (JM (FS (FS (LP (iE x)) (LP (P8 x))) (LP (mT x))) 0))) (KS (Ig (AOZ (RR (K5 x x)))) (And (Cu x) (MX (FL x) (Qf x) (Pq x) (Ia x x) (AD (λ i=>Im i x (Da x i) (Ib x i) x i x i)) (Hl x x) (AD (λ i=>Cp i x (Hy (YY x i) (Jr x i) (Bx x i) (Ii x i) x i x i))) (DC (WS (iE x)) (λ i=>LS i (cP x) (iE x)) (WS (P8 x)) (CW (aF x) (P8 x)) (WS (mT x)) (CW (Ku x) (mT x)) (SP (Mm x) (Qh x) (FI (Ku x))) (FI (cP x)) (FI (aF x))))) (And (NU (not (cG (JZ (Fd (Sz x (cP x) (aF x) (Ku x)))) (So (Sz x (cP x) (aF x) (Ku x))))) (X7 x) (FP (iE x))) (Ko (An (JZ (Fd (Sz x (cP x) (aF x) (Ku x)))) (not (So (Sz x (cP x) (aF x) (Ku x)))) (NJ (FK (iE x) (FY (X7 x))) (TiI.t x))) (XE (WS (mT x)) (CW (Ku x) (mT x)) (MY (Ku x) (Rk x)) (λ i=>MV i (Ku x) (Rk x)) (Tn (Ku x))))) (Cw (cG (An (JZ (Fd (Sz x (cP x) (aF x) (Ku x)))) (not (So (Sz x (cP x) (aF x) (Ku x)))) (NJ (FK (iE x) (FY (X7 x))) (TiI.t x))) JL) (And (IR (Cu x) (Wb x) (Qf x) (Pq x) (Xx x) (Ia x x) (HT (AD (λ i=>Im i x (Da x i) (Ib x i) x i x i)) (Hl x x) (AD (λ i=>Cp i x (Hy (YY x i) (Jr x i) (Bx x i) (Ii x i) x i x i))) (FL x) (DC (EA (Mm x) (FL x)) (λ i=>VM i (Mm x) (Da x i) (FL x) (ADK x i)) (FM (gB x) (FL x)) (AD (λ i=>Cp i x (Mx (EL (YY x i) (FL x) i) (Bx x i) (FL x) i (AEU x i)))) (And (LW (Mm x)) (LW (gB x))) (SU (XE (CB (Em x) (Ce x)) (CW (Em x) (Ce x)) (MY (Em x) (Rk x)) (λ i=>MV i (Em x) (Rk x)) (Tn (Em x)))) (SU (AF (CB (Bs x) (Ks x)) (CW (Bs x) (Ks x)) (CB (Bs x) (eP x)) (CW (Bs x) (eP x)) (Tn (Bs x)))) (SU (AF (CB (Cg x) (Lh x)) (CW (Cg x) (Lh x)) (CB (Cg x) (Qj x)) (CW (Cg x) (Qj x)) (Tn (Cg x)))) (SU (AF (CB (Co x) (Me x)) (CW (Co x) (Me x)) (CB (Co x) (Qi x)) (CW (Co x) (Qi x)) (Tn (Co x))))))) GF)) (And (IR (Cu x) (Wb x) (Qf x) (Pq x) (Xx x) (Ia x x) (HT (AD (λ i=>Im i x (Da x i) (Ib x i) x i x i)) (Hl x x) (AD (λ i=>Cp i x (Hy (YY x i) (Jr x i) (Bx x i) (Ii x i) x i x i))) (FL x) (DC (EA (Mm x) (FL x)) (λ i=>VM i (Mm x) (Da x i) (FL x) (ADK x i)) (FM (gB x) (FL x)) (AD (λ i=>Cp i x (Mx (EL (YY x i) (FL x) i) (Bx x i) (FL x) i (AEU x i)))) (And (LW (Mm x)) (LW (gB x))) (SU (XE (CB (Em x) (Ce x)) (CW (Em x) (Ce x)) (MY (Em x) (Rk x)) (λ i=>MV i (Em x) (Rk x)) (Tn (Em x)))) (SU (AF (CB (Bs x) (Ks x)) (CW (Bs x) (Ks x)) (CB (Bs x) (eP x)) (CW (Bs x) (eP x)) (Tn (Bs x)))) (SU (AF (CB (Cg x) (Lh x)) (CW (Cg x) (Lh x)) (CB (Cg x) (Qj x)) (CW (Cg x) (Qj x)) (Tn (Cg x)))) (SU (AF (CB (Co x) (Me x)) (CW (Co x) (Me x)) (CB (Co x) (Qi x)) (CW (Co x) (Qi x)) (Tn (Co x))))))) GF)))))))))))))) := by kernel_rfl
theorem AYN (l : List Span) : samS ⟨l, l⟩ = true := by
 unfold samS
 rw [show (l.length == l.length) = true from beq_self_eq_true _, Bool.true_and]
 show eqN (eqS ⟨l, l⟩) l.length = true
 generalize l.length = n
 induction n with
 | zero => rfl
 | succ n ih =>
  show (eqN (eqS ⟨l, l⟩) n && eqS ⟨l, l⟩ n) = true
  rw [ih]; unfold eqS; simp
theorem BZC (e : Int) : (bif bif e == 6 then bif (Z4 e).2 != 0 then true else (Z4 e).1 else false then true else bif e != 6 then bif (Z4 e).2 != e then true else !(Z4 e).1 == (e == 0) else false) = false := by
 unfold Z4
 by_cases h : e = 6
 ·subst h; rfl
 ·have h1 : (e == 6) = false := by simpa using h
  have h2 : (e != 6) = true := by simpa using h
  rw [h1, h2]; simp
theorem BHO {x : TrI} (h : (RR x).2 ≠ 0) : (RR x).1 = vK := by
 unfold RR at h ⊢
 cases h1 : (MO x.a != 0) with
 | true => rfl
 | false =>
  rw [h1] at h
  cases h2 : (!KT x.m 0 (wr ((x.a.c.ms.length : Int) - 1))) with
  | true => rfl
  | false =>
   rw [h2] at h
   cases h3 : (!(GD (CV x.a)).2) with
   | true => rfl
   | false =>
    rw [h3] at h
    cases h4 : (cZ x).all Du with
    | true => rw [h4] at h; exact absurd rfl h
    | false => rfl
theorem BXK (x : TrI) : (bif (RR x).2 != Ui x then true else bif (RR x).2 != 0 then decide (IntKind.i64.wrap (IntKind.i64.wrap (((RR x).1.t.length : Int) + ((RR x).1.s.length : Int)) + ((RR x).1.z.length : Int)) > 0) else false) = false := by
 rw [AXM, show (Ui x != Ui x) = false from bne_self_eq_false _]
 show (bif Ui x != 0 then _ else false) = false
 cases h : (Ui x != 0) with
 | false => rfl
 | true =>
  have h : (RR x).2 ≠ 0 := by rw [AXM]; simpa using h
  rw [BHO h]; rfl
theorem BJN (t : Tru) : Tru.mk t.t t.s t.z = t := rfl
theorem BSI {c : Cht} (h : bigV c = false) : c.ms.length <= 42 /\ c.ns.length <= 22 := by
 unfold bigV at h
 simp only [Bool.or_eq_false_iff, decide_eq_false_iff_not] at h
 omega
theorem ARK (c : Cht) (h : c.ms.length <= 42) : (SR c).1.length <= 42 := by
 unfold SR
 cases (AM c == 0) with
 | false => exact Nat.zero_le _
 | true =>
  cases ZV c with
  | false => exact Nat.zero_le _
  | true => show (Eg c).length <= 42; rw [mV]; exact h
theorem BGH (a : CZ) (h : a.c.ms.length <= 42) : (Mt a).1.length <= 42 := by
 by_cases h0 : CF a = 0
 ·rw [ARW h0]; show (Uy a).length <= 42; rw [yH h0]; exact h
 ·rw [AFI h0]; exact Nat.zero_le _
theorem p_Ti (x : TiI) : V_Ti x := by
 rw [BWL]<;> delta KH wN ZR BG BJ EC MM NO ES ET BW ED AD BU CL AR GK BZ DJ EK HO KB NL EJ GW EX HP HN HJ GT GB HC DU GG FE JW Ef FP FK VV Dx JL JM PW FY NJ KI DO LY SW sY sS AFK AIC Rk AXC X7 AOZ AE CR FA BB GA AF FL PX AY AU SX AG EM EZ FD Zp XG AX FC BM CJ AK AN DD BH HX BY BP CX Bj Uf HZ BN CY BS CE HQ FU AV DA AQ Jc QY AZ PF LX DQ CP FT AS FS DM AP ID AT Jr EG CN CM IY GP kB EN FH HV AO DC CK DT Ce EL FV IP DK CD xW EP APR HW JY DB FN CB FM UV KM HF EA MB FQ Em NG BE AOF LI Mx FO FZ LL AUQ LP NC TZ AWE IC VT PI SY EW eP AOU Qg SM Oq OB VM LS uH LV EF YY Mm FI IF GF Qj AJW EY K5 gB Qi PN FX CW AEF PJ TD MY AJF HG ER KO MV HT JQ KS WA VC WT JZ MD LW SU mT Fd SP So WL JG IR NU Co iE Cg Cu An Sr ADK AEU Bs WS Ao Da Bx Ep Cp Ia Hl Ib Ku QH MX Me vG Qh P8 Ii Lh XE Fc Ks Qf Fq Nq Pq Cw Tn Wb cL aF Tg Yf Xx cP Ig Sz Ko La Hy Im cG; simp only [CC, eq_self, implies_true, forall_const, CU, WD, BBT, BJN]
 simp only [bne_self_eq_false, AYN, beq_self_eq_true, Bool.not_true, cond_false, BZC, BXK, Bool.false_eq_true, false_implies, true_and, forall_const]
 intro h0
 simp only [Bool.cond_true_left, Bool.or_eq_false_iff, decide_eq_false_iff_not] at h0
 obtain ⟨⟨⟨⟨hB, hz⟩, h1⟩, h2⟩, h3⟩ := h0
 obtain ⟨b1, b2⟩ := BSI hB
 have sl := ARK x.a.c b1
 have tl := BGH x.a b1
 have lens : (x.a.c.ms.length < 1073741824 /\ x.a.c.ns.length < 1073741824) /\ x.a.z.length < 1073741824 /\ x.u.t.length < 1073741824 /\ x.u.s.length < 1073741824 /\ x.u.z.length < 1073741824 := by omega
 have lz : x.a.c.ms.length < 4611686018427387904 /\ x.a.c.ns.length < 4611686018427387904 /\ x.a.z.length < 4611686018427387904 := by omega
 have lc : x.a.c.ms.length < 4611686018427387904 /\ x.a.c.ns.length < 4611686018427387904 := by omega
 refine ⟨lens, by omega, lc, lc, lc, by omega, by omega, by omega, lz, lz, by omega, lz, lz, lz, λ h => ?_, λ _ => lens⟩
 obtain ⟨c0, hm, l1, t1, l2, z1, hd⟩ := BRF (x := ⟨x.a, x.m, x.t⟩) (by simpa using h)
 have hm : 0 <= x.m /\ x.m < x.a.c.ms.length := hm
 have l1 : (RR ⟨x.a, x.m, x.t⟩).1.t.length = x.a.c.ms.length := l1
 have l2 : (RR ⟨x.a, x.m, x.t⟩).1.s.length = x.a.c.ms.length := l2
 have t1 : gD (RR ⟨x.a, x.m, x.t⟩).1.t x.m.toNat = x.t := t1
 have z1 : (RR ⟨x.a, x.m, x.t⟩).1.z = x.a.z := z1
 have hd : Bm ⟨x.a.c, (RR ⟨x.a, x.m, x.t⟩).1⟩ = (true, 0) := hd
 rw [hd, t1, z1, l1, l2]
 refine ⟨by omega, ⟨λ _ => hm, λ _ => ⟨rfl, λ _ _ => rfl, by omega⟩⟩, λ q => ?_, λ _ => lens⟩
 simp at q
theorem BYS (x : TiI) : FnT Try.prog AOQ (xTi x) (AB []) (.bool true) [] := Hp (A := A_Ti) (L := []) (keep := []) (ren := []) (fz := []) AYJ (by kernel_rfl) (AA BUH (AA AZT (AA BSY (AA BUQ (AA BUA (AA AGB (AA rA (AA APK (AA ADM (AA AUL (AA BMF (AA BKN (AA AOH (AA AVO (AA BVK (AA BUI (AA BLC (AA BSU (AA BRL AC))))))))))))))))))) (p_Ti x)
end Go.Bal
