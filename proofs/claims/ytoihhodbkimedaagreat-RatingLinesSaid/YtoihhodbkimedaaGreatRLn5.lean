/- Law RatingLines: its walk. -/
import Derived.Test.YtoihhodbkimedaaGreatRLn4
import Derived.Test.YtoihhodbkimedaaGreatRatX
set_option linter.unusedVariables false
set_option linter.unusedSimpArgs false
namespace Go.Bal
open Go Go.Sym Go.Proofs
structure LnA where
 l : List Gau
 r : Rtg
 x : Ln
 s : Int
def xLn (a : LnA) : List AVal := [.d (BE a.l), .d (E4 a.r), .d (eLn a.x), .int a.s]
def A_Ln : Ann := ann 142 [(ASG, BBS), (AOD, C_cdG.spec JW), (J8, C_cdI.spec dIs1), (AKZ, C_cdL.spec dLs1), (Cb, C_Check.spec JW), (AXB, C_Gaus.spec JW), (mF, C_rCheck.spec JW), (Ej, C_CheckR.spec dRt1), (AEZ, C_modC.spec dRt1), (kY, C_rChkR.spec dRt1), (AWP, ANQ), (G3, ARG), (AXI, ANQ), (n_At, C_At.spec dRtI), (BHL, C_At.spec dRtI), (X2, C_Passes.spec dGR), (AVM, C_Passes.spec dGR), (ARS, C_smI.spec dIs2), (APG, C_smG.spec dGs2), (AMA, C_smL.spec dLs2)]
def V_Ln (a : LnA) : Prop := AO Try.prog A_Ln AHQ (AF AHQ) (xLn a) (AC []) (.bool true) [] [] []
abbrev AXQ (a : LnA) : List Gau := AD a.l.length λ (i : Nat) => gD a.l i
abbrev mV (a : LnA) : Nat := (AXQ a).length
abbrev AQF (a : LnA) : Prop := mV a = a.l.length
abbrev V6 (a : LnA) (i : Nat) : Gau := gD (AXQ a) i
abbrev AWL (a : LnA) (i : Nat) : Int := (V6 a i).st
abbrev AWN (a : LnA) (i : Nat) : Int := (V6 a i).lo
abbrev AWW (a : LnA) (i : Nat) : Int := (V6 a i).hi
abbrev ANR (a : LnA) : Prop := ∀ (i : Nat), i < mV a -> AWL a i = (gD a.l i).st /\ AWN a i = (gD a.l i).lo /\ AWW a i = (gD a.l i).hi
abbrev ASJ (a : LnA) : Prop := mV a < 1073741824 /\ True
abbrev AXE (a : LnA) : List Int := AD a.r.b.length λ (i : Nat) => gD a.r.b i
abbrev Pm (a : LnA) : Nat := (AXE a).length
abbrev lF (a : LnA) : Prop := Pm a = a.r.b.length
abbrev G4 (a : LnA) (i : Nat) : Int := gD (AXE a) i
abbrev fX (a : LnA) : Prop := ∀ (i : Nat), i < Pm a -> G4 a i = gD a.r.b i
abbrev AQL (a : LnA) : Prop := Pm a < 1073741824
abbrev AON (a : LnA) : List Ln := AD a.r.l.length λ (i : Nat) => gD a.r.l i
abbrev Ng (a : LnA) : Nat := (AON a).length
abbrev gC (a : LnA) : Prop := Ng a = a.r.l.length
abbrev Qj (a : LnA) (i : Nat) : Ln := gD (AON a) i
abbrev AMR (a : LnA) (i : Nat) : Int := (Qj a i).a0
abbrev APR (a : LnA) (i : Nat) : Int := (Qj a i).a1
abbrev ALB (a : LnA) (i : Nat) : Int := (Qj a i).b0
abbrev AQZ (a : LnA) (i : Nat) : Int := (Qj a i).b1
abbrev jB (a : LnA) : Prop := ∀ (i : Nat), i < Ng a -> AMR a i = (gD a.r.l i).a0 /\ APR a i = (gD a.r.l i).a1 /\ ALB a i = (gD a.r.l i).b0 /\ AQZ a i = (gD a.r.l i).b1
abbrev AOT (a : LnA) : Prop := Ng a < 1073741824
abbrev mG (a : LnA) : List Gau := AD (mV a) λ (i : Nat) => V6 a i
abbrev Nj (a : LnA) : Nat := (mG a).length
abbrev iQ (a : LnA) : Prop := Nj a = mV a
abbrev ANI (i : Nat) (a : LnA) : Prop := i < Nj a
abbrev I7 (a : LnA) (i : Nat) : Gau := gD (mG a) i
abbrev ALD (a : LnA) (i : Nat) : Int := (I7 a i).st
abbrev AOQ (a : LnA) (i : Nat) : Int := (I7 a i).lo
abbrev AMN (a : LnA) (i : Nat) : Int := (I7 a i).hi
abbrev jW (a : LnA) : Prop := ∀ (i : Nat), ANI i a -> ALD a i = AWL a i /\ AOQ a i = AWN a i /\ AMN a i = AWW a i
abbrev ALT (a : LnA) : Prop := Nj a < 1073741824
abbrev APB (a : LnA) : Prop := ALT a /\ True
abbrev AOY (a : LnA) : Int := AK (mG a)
abbrev ARV (a : LnA) : Bool := AOY a != AOY a
abbrev L2 (a : LnA) : Prop := (!ARV a) = true
abbrev K3 (a : LnA) : List Int := AD (Pm a) λ (i : Nat) => G4 a i
abbrev Mq (a : LnA) : Nat := (K3 a).length
abbrev Lo (a : LnA) : Prop := Mq a = Pm a
abbrev AOI (i : Nat) (a : LnA) : Prop := i < Mq a
abbrev ASH (a : LnA) (i : Nat) : Int := gD (K3 a) i
abbrev Ow (a : LnA) : Prop := ∀ (i : Nat), AOI i a -> ASH a i = G4 a i
abbrev H4 (a : LnA) : List Ln := AD (Ng a) λ (i : Nat) => Qj a i
abbrev Kw (a : LnA) : Nat := (H4 a).length
abbrev Qo (a : LnA) : Prop := Kw a = Ng a
abbrev AQU (i : Nat) (a : LnA) : Prop := i < Kw a
abbrev gL (a : LnA) (i : Nat) : Ln := gD (H4 a) i
abbrev APE (a : LnA) (i : Nat) : Int := (gL a i).a0
abbrev AQX (a : LnA) (i : Nat) : Int := (gL a i).a1
abbrev ARU (a : LnA) (i : Nat) : Int := (gL a i).b0
abbrev ARJ (a : LnA) (i : Nat) : Int := (gL a i).b1
abbrev Ot (a : LnA) : Prop := ∀ (i : Nat), AQU i a -> APE a i = AMR a i /\ AQX a i = APR a i /\ ARU a i = ALB a i /\ ARJ a i = AQZ a i
abbrev H9 (a : LnA) : Prop := AQL a /\ AOT a
abbrev AQN (a : LnA) : Prop := Mq a < 1073741824
abbrev ASP (a : LnA) : Prop := Kw a < 1073741824
abbrev K6 (a : LnA) : Prop := AQN a /\ ASP a
abbrev M3 (a : LnA) : Rtg := Rtg.mk (K3 a) (H4 a)
abbrev AMU (a : LnA) : Int := AZ (M3 a)
abbrev AMQ (a : LnA) : Prop := Lo a /\ Ow a /\ Qo a /\ Ot a /\ a.s = a.s /\ K6 a
abbrev APO (a : LnA) : RtI := RtI.mk (M3 a) a.s
abbrev ASE (a : LnA) : Int := atE (APO a)
abbrev APJ (a : LnA) : Rt := D8 (APO a)
abbrev ARO (a : LnA) : Int := (APJ a).n
abbrev ARY (a : LnA) : Int := (APJ a).d
abbrev ANX (a : LnA) : Prop := iQ a /\ jW a /\ Lo a /\ Ow a /\ Qo a /\ Ot a /\ ALT a /\ K6 a
abbrev AQV (a : LnA) : GR := GR.mk (mG a) (M3 a)
abbrev ANM (a : LnA) : Int := EF (AQV a)
abbrev ANB (a : LnA) : Bool := ANM a == ANM a
abbrev AMV (a : LnA) : List Int := OR (AQV a)
abbrev AQD (a : LnA) : Nat := (AMV a).length
abbrev AOM (a : LnA) (i : Nat) : Int := gD (AMV a) i
abbrev AMT (a : LnA) : List Int := AD (AQD a) λ (i : Nat) => AOM a i
abbrev J4 (a : LnA) : Nat := (AMT a).length
abbrev ALJ (a : LnA) : Prop := J4 a = AQD a
abbrev APC (a : LnA) : Prop := ∀ (i : Nat), i < J4 a -> gD (AMT a) i = AOM a i
abbrev AQE (a : LnA) : Bool := bif ANB a then true else false
abbrev ALV (a : LnA) : Bool := bif AQE a then true else false
abbrev AMD (a : LnA) : Bool := bif ALV a then true else false
theorem BWJ (a : LnA) : (V_Ln a) = (bif bif bif decide ((↑a.l.length : Int) > 27) then true else decide ((↑a.r.b.length : Int) > 27) then true else decide ((↑a.r.l.length : Int) > 27) then true = true else (AQF a /\
 ANR a /\ ASJ a /\ lF a /\ fX a /\ (AQL a /\ True) /\ gC a /\ jB a /\ AOT a /\ True) /\ (iQ a /\ jW a /\ (Nj a < 4611686018427387904 /\ True) /\ AQF a /\ ANR a /\ ASJ a /\ iQ
 a /\ jW a /\ APB a /\ (L2 a -> Lo a /\ Ow a /\ Qo a /\ Ot a /\ Mq a < 4611686018427387904 /\ Kw a < 4611686018427387904) /\ (L2 a -> lF a /\ fX a /\ gC a /\ jB a /\
 H9 a) /\ (L2 a -> Lo a /\ Ow a /\ Qo a /\ Ot a /\ K6 a)) /\ bif bif ARV a then true else AMU a != AMU a then true = false else bif bif NE a.x a.s != NE a.x a.s then true else
 !((JX a.x a.s).n == (JX a.x a.s).n && ((JX a.x a.s).d == (JX a.x a.s).d && true)) then true = false else AMQ a /\ (lF a /\ fX a /\ gC a /\ jB a /\ H9 a /\ AMQ a) /\ bif bif ASE a !=
 ASE a then true else !(ARO a == ARO a && (ARY a == ARY a && true)) then true = false else ANX a /\ (AQF a /\ ANR a /\ ASJ a /\ lF a /\ fX a /\ gC a /\ jB a /\ H9 a /\
 ANX a) /\ ((ANB a = true -> ALJ a /\ APC a /\ ALJ a /\ APC a /\ J4 a < 1073741824 /\ True) /\ (AQE a = true -> iQ a /\ jW a /\ Nj a = a.l.length /\ (∀ (i : Nat), ANI i a -> ALD
 a i = (gD a.l i).st /\ AOQ a i = (gD a.l i).lo /\ AMN a i = (gD a.l i).hi) /\ APB a) /\ (ALV a = true -> Lo a /\ Ow a /\ Mq a = a.r.b.length /\ (∀ (i : Nat), AOI i a -> ASH a i = gD a.r.b i)
 /\ AQN a /\ True) /\ (AMD a = true -> Qo a /\ Ot a /\ Kw a = a.r.l.length /\ (∀ (i : Nat), AQU i a -> APE a i = (gD a.r.l i).a0 /\ AQX a i = (gD a.r.l i).a1 /\ ARU a i = (gD a.r.l i).b0 /\
 ARJ a i = (gD a.r.l i).b1) /\ ASP a /\ True)) /\ true = bif bif AMD a then true else false then true else false) := by kernel_rfl
theorem p_Ln (a : LnA) : V_Ln a := by
 rw [BWJ]; delta AXQ mV AQF V6 AWL AWN AWW ANR ASJ AXE Pm lF G4 fX AQL AON Ng gC Qj AMR APR ALB AQZ jB AOT mG Nj iQ ANI I7 ALD AOQ AMN jW ALT APB AOY ARV L2 K3 Mq Lo AOI ASH Ow H4 Kw Qo AQU gL APE AQX ARU ARJ Ot H9 AQN ASP K6 M3 AMU AMQ APO ASE APJ ARO ARY ANX AQV ANM ANB AMV AQD AOM AMT J4 ALJ APC AQE ALV AMD; simp only [CC, eq_self, implies_true, forall_const]
 intro hb
 have hl : a.l.length <= 27 /\ a.r.b.length <= 27 /\ a.r.l.length <= 27 := by
  by_cases h1 : (a.l.length : Int) > 27
  ·rw [decide_eq_true h1] at hb; cases hb
  ·rw [decide_eq_false h1] at hb
   by_cases h2 : (a.r.b.length : Int) > 27
   ·rw [decide_eq_true h2] at hb; cases hb
   ·rw [decide_eq_false h2] at hb
    have := of_decide_eq_false hb
    omega
 obtain ⟨l1, l2, l3⟩ := hl
 have hp : (OR (GR.mk a.l (Rtg.mk a.r.b a.r.l))).length < 1073741824 := by
  unfold OR
  cases EF (GR.mk a.l (Rtg.mk a.r.b a.r.l)) == 0 with
  | false => show 0 < _; omega
  | true =>
   have := gM (GR.mk a.l (Rtg.mk a.r.b a.r.l)) a.l.length
   show (SF _ a.l.length).length < _
   omega
 have k1 : a.l.length < 1073741824 := by omega
 have k2 : a.r.b.length < 1073741824 := by omega
 have k3 : a.r.l.length < 1073741824 := by omega
 have k4 : a.l.length < 4611686018427387904 := by omega
 have k5 : a.r.b.length < 4611686018427387904 := by omega
 have k6 : a.r.l.length < 4611686018427387904 := by omega
 simp [hp, k1, k2, k3, k4, k5, k6]
theorem BYG (a : LnA) : FnT Try.prog ATM (xLn a) (AC []) (.bool true) [] := JZ (A := A_Ln) (ren := []) (fz := []) BDJ (by kernel_rfl) (AB BHE (AB BUQ (AB BIY (AB BUU (AB VK (AB BPH (AB AJO (AB tN (AB BPU (AB AIS (AB BNN (AB AVA (AB BNX (AB BXT (AB BWC (AB BDL (AB BNY (AB BTD (AB BTE (AB BUV AE)))))))))))))))))))) (p_Ln a)
end Go.Bal
