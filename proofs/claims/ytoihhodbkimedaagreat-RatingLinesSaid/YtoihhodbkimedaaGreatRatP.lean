/- Package rating: Dry. -/
import Derived.Test.YtoihhodbkimedaaGreatRatO
set_option linter.unusedVariables false
set_option linter.unusedSimpArgs false
namespace Go.Bal
open Go Go.Sym Go.Proofs
def Ij (a : GB) : Span × Int := bif AX a == 0 then (bif decide ((lnK a 0).length = 0) then (default, 6) else (⟨E9 nL ⟨BK a, 0⟩, E9 oN ⟨BK a, 0⟩⟩, 0)) else (default, AX a)
def C_Dry : Ctr := { α := GB, xs := xGB, L := λ _ => [], val := λ x => .tup [.d (AKC (Ij x).1), .int (Ij x).2], keep := λ _ => [], pre := λ x => [preB x /\ True] }
def G_dy (c : Sym.Spec) : List (FuncId × Sym.Spec) := [(QW, c), (eS, C_lns.spec dBkS), (cT, orS ((TH nL LF).spec (dUpO LF)) ((TH oN MK).spec (dUpO MK)))]
def BRK : Ann := ann 31 (G_dy (C_open.spec dGB))
def BRU : Ann := { ann 31 (G_dy (C_openX.spec dGB)) with cut := λ id => if id = 4 then some [] else none }
def BSW (x : GB) : Prop := AO Try.prog BRK ASV (AF ASV) (xGB x) (AC []) (C_Dry.val x) [] [] []
abbrev K7 (x : GB) : List Gau := AD x.g.length λ (i : Nat) => gD x.g i
abbrev K4 (x : GB) : Nat := (K7 x).length
abbrev M0 (x : GB) (i : Nat) : Gau := gD (K7 x) i
abbrev I8 (x : GB) : List Int := AD x.b.length λ (i : Nat) => gD x.b i
abbrev G6 (x : GB) : Nat := (I8 x).length
abbrev APH (x : GB) : GB := GB.mk (K7 x) (I8 x)
abbrev fZ : Prop := (0 : Int) = Int.ofNat (0 : Nat)
abbrev Cf (x : GB) : Bk := BK (APH x)
abbrev ALL (x : GB) : List Gau := (Cf x).g
abbrev No (x : GB) : Nat := (ALL x).length
abbrev Jk (x : GB) (i : Nat) : Gau := gD (ALL x) i
abbrev XA (x : GB) : List Gau := AD (No x) λ (i : Nat) => Jk x i
abbrev Jc (x : GB) : Nat := (XA x).length
abbrev jK (x : GB) : Prop := Jc x = No x
abbrev iI (x : GB) (i : Nat) : Gau := gD (XA x) i
abbrev ABP (x : GB) (i : Nat) : Int := (iI x i).st
abbrev fD (x : GB) (i : Nat) : Int := (Jk x i).st
abbrev ACT (x : GB) (i : Nat) : Int := (iI x i).lo
abbrev jV (x : GB) (i : Nat) : Int := (Jk x i).lo
abbrev N6 (x : GB) (i : Nat) : Int := (iI x i).hi
abbrev kM (x : GB) (i : Nat) : Int := (Jk x i).hi
abbrev lV (x : GB) : Prop := ∀ (i : Nat), i < Jc x -> ABP x i = fD x i /\ ACT x i = jV x i /\ N6 x i = kM x i
abbrev N8 (x : GB) : List Int := (Cf x).b
abbrev VR (x : GB) : Nat := (N8 x).length
abbrev Io (x : GB) (i : Nat) : Int := gD (N8 x) i
abbrev QP (x : GB) : List Int := AD (VR x) λ (i : Nat) => Io x i
abbrev VM (x : GB) : Nat := (QP x).length
abbrev gP (x : GB) : Prop := VM x = VR x
abbrev AIB (x : GB) (i : Nat) : Int := gD (QP x) i
abbrev jH (x : GB) : Prop := ∀ (i : Nat), i < VM x -> AIB x i = Io x i
abbrev AAV : Value := Value.slice none (0 : Nat) (0 : Nat)
abbrev XL : Prop := AAV = AAV
abbrev Y4 (x : GB) (n : Int) : Int := (Cf x).st n
abbrev iM (x : GB) : Bk := Bk.mk (XA x) (QP x) (Cf x).has (Cf x).st
abbrev AFG (x : GB) (n : Int) : List Ln := AI (iM x) n
abbrev ACS (x : GB) (n : Int) : Nat := (AFG x n).length
abbrev P7 (x : GB) (n : Int) : List Ln := AI (Cf x) n
abbrev Gh (x : GB) (n : Int) (i : Nat) : Ln := gD (AFG x n) i
abbrev Ks (x : GB) (n : Int) (i : Nat) : Ln := gD (P7 x n) i
abbrev OD (x : GB) : Bk := BY (iM x) (0 : Int)
abbrev ADR (x : GB) : List Gau := (OD x).g
abbrev AFZ (i : Nat) (x : GB) : Prop := i < No x
abbrev lE (x : GB) (i : Nat) : Gau := gD (ADR x) i
abbrev ABB (x : GB) : List Int := (OD x).b
abbrev Z8 (i : Nat) (x : GB) : Prop := i < VR x
abbrev AGF (x : GB) : Prop := Jc x <= (24 : Nat) /\ (∀ (x_1 : Gau), List.Mem x_1 (XA x) -> (0 : Int) <= x_1.st /\ x_1.st <= (2000 : Int) /\ (0 : Int) <= x_1.lo /\ x_1.lo <= x_1.hi /\ x_1.hi <= (200000 : Int)) /\
 VM x <= (24 : Nat) /\ List.Pairwise (λ (x1 x2 : Int) => x1 < x2) (QP x) /\ ∀ (x_1 : Int), List.Mem x_1 (QP x) -> (1 : Int) <= x_1 /\ x_1 <= (2000 : Int)
abbrev AIY : Prop := (0 : Int) <= (0 : Int)
abbrev AID (x : GB) (n : Int) : Bool := (OD x).has n
abbrev Et (x : GB) : Prop := ∀ (n : Int), AID x n = AID x n
abbrev AEK (x : GB) (n : Int) : Int := (OD x).st n
abbrev Gr (x : GB) : Prop := ∀ (n : Int), AEK x n = AEK x n
abbrev ADA (x : GB) : Bk := Bk.mk (XA x) (QP x) (OD x).has (OD x).st
abbrev AHO (x : GB) (n : Int) : List Ln := AI (ADA x) n
abbrev kK (x : GB) (n : Int) : Nat := (AHO x n).length
abbrev AEV (x : GB) (n : Int) : List Ln := AI (OD x) n
abbrev gB (x : GB) (n : Int) : Nat := (AEV x n).length
abbrev Ho (x : GB) (n : Int) (i : Nat) : Ln := gD (AHO x n) i
abbrev AGU (x : GB) (n : Int) (i : Nat) : Int := (Ho x n i).a0
abbrev Fe (x : GB) (n : Int) (i : Nat) : Ln := gD (AEV x n) i
abbrev ACF (x : GB) (n : Int) (i : Nat) : Int := (Fe x n i).a0
abbrev AAL (x : GB) (n : Int) (i : Nat) : Int := (Ho x n i).a1
abbrev AAA (x : GB) (n : Int) (i : Nat) : Int := (Fe x n i).a1
abbrev Q3 (x : GB) (n : Int) (i : Nat) : Int := (Ho x n i).b0
abbrev ABS (x : GB) (n : Int) (i : Nat) : Int := (Fe x n i).b0
abbrev S1 (x : GB) (n : Int) (i : Nat) : Int := (Ho x n i).b1
abbrev AIC (x : GB) (n : Int) (i : Nat) : Int := (Fe x n i).b1
abbrev AGS (x : GB) : Prop := ∀ (n : Int), kK x n = gB x n /\ ∀ (i : Nat), i < kK x n -> AGU x n i = ACF x n i /\ AAL x n i = AAA x n i /\ Q3 x n i = ABS x n i /\ S1
 x n i = AIC x n i
abbrev AEI (x : GB) : Prop := No x = Jc x
abbrev ABN (x : GB) : Prop := ∀ (i : Nat), AFZ i x -> fD x i = ABP x i /\ jV x i = ACT x i /\ kM x i = N6 x i
abbrev Q5 (x : GB) : Prop := VR x = VM x
abbrev U8 (x : GB) : Prop := ∀ (i : Nat), Z8 i x -> Io x i = AIB x i
abbrev T1 (x : GB) : Prop := ∀ (n : Int), gB x n = kK x n /\ ∀ (i : Nat), i < gB x n -> ACF x n i = AGU x n i /\ AAA x n i = AAL x n i /\ ABS x n i = Q3 x n i /\ AIC
 x n i = S1 x n i
abbrev AHP (x : GB) : Prop := AGF x /\ AIY /\ (0 : Int) <= (↑(VM x) : Int) /\ true = true
abbrev Y6 (x : GB) : BkI := BkI.mk (ADA x) (0 : Int)
theorem BTN (x : GB) : (BSW x) = ((K4 x = x.g.length /\ (∀ (i : Nat), i < K4 x -> (M0 x i).st = (gD x.g i).st /\ (M0 x i).lo = (gD x.g i).lo /\ (M0 x i).hi = (gD x.g i).hi) /\ G6 x =
 x.b.length /\ (∀ (i : Nat), i < G6 x -> gD (I8 x) i = gD x.b i) /\ K4 x < (4611686018427387904 : Nat) /\ G6 x < (4611686018427387904 : Nat) /\ AX (APH x) = (0 : Int)) /\ (fZ /\ fZ /\ jK
 x /\ lV x /\ gP x /\ jH x /\ XL /\ (∀ (n : Int), false = false) /\ (∀ (n : Int), Y4 x n = Y4 x n) /\ (∀ (n : Int), ACS x n = (P7 x n).length /\ ∀ (i : Nat), i < ACS x n ->
 (Gh x n i).a0 = (Ks x n i).a0 /\ (Gh x n i).a1 = (Ks x n i).a1 /\ (Gh x n i).b0 = (Ks x n i).b0 /\ (Gh x n i).b1 = (Ks x n i).b1) /\ No x = (ADR x).length /\ (∀ (i :
 Nat), AFZ i x -> fD x i = (lE x i).st /\ jV x i = (lE x i).lo /\ kM x i = (lE x i).hi) /\ VR x = (ABB x).length /\ (∀ (i : Nat), Z8 i x -> Io x i = gD (ABB
 x) i) /\ AGF x /\ AIY /\ (0 : Int) <= (2000 : Int)) /\ bif (↑(JO (sB (BkS.mk (iM x) (0 : Int) (0 : Int))) (0 : Int)).length : Int) == (0 : Int) then (Ij x).fst.lo = (0 : Int) /\ (Ij x).fst.hi = (0 : Int)
 /\ (Ij x).snd = (6 : Int) else (fZ /\ jK x /\ lV x /\ gP x /\ jH x /\ XL /\ Et x /\ Gr x /\ AGS x /\ AEI x /\ ABN x /\ Q5 x /\ U8 x /\ XL /\ Et x /\
 Gr x /\ T1 x /\ AHP x /\ fZ /\ jK x /\ lV x /\ gP x /\ jH x /\ XL /\ Et x /\ Gr x /\ AGS x /\ AEI x /\ ABN x /\ Q5 x /\ U8 x /\ XL /\
 Et x /\ Gr x /\ T1 x /\ AHP x) /\ (Ij x).fst.lo = E9 nL (Y6 x) /\ (Ij x).fst.hi = E9 oN (Y6 x) /\ (Ij x).snd = (0 : Int)) := by kernel_rfl
def BSE (x : GB) : Prop := AO Try.prog BRU ASV (AF ASV) (xGB x) (AC []) (C_Dry.val x) [] [] []
theorem BTH (x : GB) : (BSE x) = (((AD x.g.length λ (i : Nat) => gD x.g i).length = x.g.length /\ (∀ (i : Nat), i < (AD x.g.length λ (i : Nat) => gD x.g i).length -> (gD (AD x.g.length λ (i : Nat) => gD x.g
 i) i).st = (gD x.g i).st /\ (gD (AD x.g.length λ (i : Nat) => gD x.g i) i).lo = (gD x.g i).lo /\ (gD (AD x.g.length λ (i : Nat) => gD x.g i) i).hi = (gD x.g i).hi) /\ (AD x.b.length λ (i : Nat) => gD x.b i).length
 = x.b.length /\ (∀ (i : Nat), i < (AD x.b.length λ (i : Nat) => gD x.b i).length -> gD (AD x.b.length λ (i : Nat) => gD x.b i) i = gD x.b i) /\ (AD x.g.length λ (i : Nat) => gD x.g i).length < 4611686018427387904 /\
 (AD x.b.length λ (i : Nat) => gD x.b i).length < 4611686018427387904 /\ AX (GB.mk (AD x.g.length λ (i : Nat) => gD x.g i) (AD x.b.length λ (i : Nat) => gD x.b i)) ≠ 0) /\ (bif AX (GB.mk (AD x.g.length fun
 (i : Nat) => gD x.g i) (AD x.b.length λ (i : Nat) => gD x.b i)) != 0 then (Ij x).fst.lo = 0 /\ (Ij x).fst.hi = 0 /\ (Ij x).snd = AX (GB.mk (AD x.g.length λ (i : Nat) => gD x.g i) (AD x.b.length λ (i :
 Nat) => gD x.b i)) else False) /\ True) := by kernel_rfl
theorem BWN (x : GB) (h : preB x) (hE : AX x = 0) : BSW x := by
 rw [BTN]; delta K7 K4 M0 I8 G6 APH fZ Cf ALL No Jk XA Jc jK iI ABP fD ACT jV N6 kM lV N8 VR Io QP VM gP AIB jH AAV XL Y4 iM AFG ACS P7 Gh Ks OD ADR AFZ lE ABB Z8 AGF AIY AID Et AEK Gr ADA AHO kK AEV gB Ho AGU Fe ACF AAL AAA Q3 ABS S1 AIC AGS AEI ABN Q5 U8 T1 AHP Y6; simp only [CC, eq_self, implies_true, forall_const, JI, NB, Rm, Rf, MZ, if_true]
 have hb : GP x.g x.b := ASM hE
 have e0 : AX x == 0 := by rw [hE]; rfl
 refine ⟨⟨h.1, h.2, hE⟩, ⟨rfl, rfl, hb, by omega, by omega⟩, λ hc => ?_, λ hc => ⟨⟨rfl, ⟨hb, by omega, by omega⟩, rfl, hb, by omega, by omega⟩, ?_⟩⟩
 ·have hc : ((lnK x 0).length : Int) == 0 := hc
  have e : Ij x = (default, 6) := by
   unfold Ij; rw [e0, decide_eq_true (show (lnK x 0).length = 0 by have := eq_of_beq hc; omega)]; rfl
  rw [e]; exact ⟨rfl, rfl, rfl⟩
 ·have hc : (((lnK x 0).length : Int) == 0) = false := hc
  have e : Ij x = (⟨E9 nL ⟨BK x, 0⟩, E9 oN ⟨BK x, 0⟩⟩, 0) := by
   unfold Ij; rw [e0, decide_eq_false (show ¬(lnK x 0).length = 0 by intro h0; rw [h0] at hc; cases hc)]; rfl
  rw [e]; exact ⟨rfl, rfl, rfl⟩
theorem BYY (x : GB) (h : preB x) (hE : AX x ≠ 0) : BSE x := by
 rw [BTH]; simp only [CC, eq_self, implies_true, forall_const, JI, NB, Rm, Rf, MZ, if_true]
 have hE : AX ⟨x.g, x.b⟩ ≠ 0 := hE
 have e0 : (AX ⟨x.g, x.b⟩ == 0) = false := by simpa using hE
 refine ⟨⟨h.1, h.2, hE⟩, λ _ => ?_, λ hc => ?_⟩
 ·have e : Ij x = (default, AX x) := by unfold Ij; rw [show (AX x == 0) = false from e0]; rfl
  rw [e]; exact ⟨rfl, rfl, rfl⟩
 ·exact hE (by simpa using hc)
theorem BVV : AG Try.prog BEV (C_Dry.spec dGB) := Ctr.spec_ok (C := C_Dry) (λ (x : GB) h => by
 have h : preB x := (show preB x /\ True from h).1
 by_cases hE : AX x = 0
 ·exact JZ (A := BRK) (L := []) (keep := []) (ren := []) (fz := []) BHH (by kernel_rfl) (AB L1 (AB pS (AB (oM BAA BAG) AE))) (BWN x h hE)
 ·exact JZ (A := BRU) (L := []) (keep := []) (ren := []) (fz := []) BHH (by kernel_rfl) (AB W8 (AB pS (AB (oM BAA BAG) AE))) (BYY x h hE)) _
end Go.Bal
