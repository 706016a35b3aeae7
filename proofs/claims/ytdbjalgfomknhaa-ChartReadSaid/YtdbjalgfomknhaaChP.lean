/- Package chart: Same, One. -/
import Derived.Test.YtdbjalgfomknhaaChL
set_option linter.unusedVariables false
set_option linter.unusedSimpArgs false
namespace Go.Bal
open Go Go.Sym Go.Proofs
structure SS2 where
 l : List Span
 m : List Span
def dSS2 : List AVal -> Heap -> Option (SS2 × List (Nat × Nat) × List Nat)
 | [x, y], H => match Wx x H, Wx y H with
  | some (l, f), some (m, e) => some (⟨l, m⟩, [], f ++ e)
  | _, _ => none
 | _, _ => none
def eqN (f : Nat -> Bool) : Nat -> Bool
 | 0 => true
 | k + 1 => eqN f k && f k
def eqS (x : SS2) (i : Nat) : Bool := (gD x.l i).lo == (gD x.m i).lo && (gD x.l i).hi == (gD x.m i).hi
def samS (x : SS2) : Bool := x.l.length == x.m.length && eqN (eqS x) x.l.length
def C_samS : Ctr := { α := SS2, xs := λ x => [.d (CK x.l), .d (CK x.m)], val := λ x => .bool (samS x), keep := λ _ => [], pre := λ x => [x.l.length < 4611686018427387904 /\ x.m.length < 4611686018427387904] }
def sa4 (x : SS2) : Shape := { α := Nat, dflt := 0, T := λ k => ⟨[(0, .d (CK x.l)), (1, .d (CK x.m)), (5, .int k)], []⟩, inv := λ k => k <= x.l.length /\ eqN (eqS x) k = true, meas := λ k => x.l.length - k }
def BHX (x : SS2) : Ann := { ann 26 [] with loops := λ id => if id = 4 then some [sa4 x] else none }
def BBP (x : SS2) : Prop := CR Try.prog (BHX x) ALT (AL ALT) (C_samS.xs x) (AE []) (C_samS.val x) [] [] []
abbrev Tc:=SS2.l
abbrev xC:=SS2.m
attribute [go_sem] Tc xC
theorem BJX (x : SS2) : (BBP x) = (EZ (PX (LB (Tc x)) (LB (xC x))) (EX (samS x)) (IF (λ i=>AH (AK (IC (Tc x)) (LL (Tc x)) (IC (xC x)) (LL (xC x)) (CY i)) (MF i (Tc x)) (EK (eqN (eqS x) i)))) (AF (λ i=>MH (MF i (Tc x)) (EK (eqN (eqS x) i)) i (LB (Tc x)) (MR (JA i (Tc x)) (CG i) (GY (xC x))) (MV (not (Gk (PO (Tc x) i) (PO (xC x) i) (Gk (LU (Tc x) i) (LU (xC x) i) LX))) (EX (samS x)) (λ j=>FW (AK (IC (Tc x)) (LL (Tc x)) (IC (xC x)) (LL (xC x)) (CJ j i)) (MF j (Tc x)) (EK (eqN (eqS x) j)) (GY (Tc x)) j i)) (EK (samS x))))) := by kernel_rfl
theorem ATK {f : Nat -> Bool} : ∀ {n k : Nat}, k < n -> f k = false -> eqN f n = false
 | 0, k, h, _ => absurd h (Nat.not_lt_zero _)
 | n + 1, k, h, hg => by
  show (eqN f n && f n) = false
  by_cases e : k = n
  ·subst e; rw [hg, Bool.and_false]
  ·rw [ATK (show k < n by omega) hg]; rfl
theorem BBL {f : Nat -> Bool} {k : Nat} (h : eqN f k = true) (h2 : f k = true) : eqN f (k + 1) = true := by
 show (eqN f k && f k) = true
 rw [h, h2]; rfl
theorem BSH (x : SS2) (h : x.l.length < 4611686018427387904 /\ x.m.length < 4611686018427387904) : BBP x := by
 rw [BJX]<;> delta LV He CI CH PS SI CL GY AF CV DC AS IA CG CW FG PD HU KV UC MT IF Lv LX PX Tc xC AH AK BN BQ AJ BU BJ CD BR JI GO BO FZ CX EF JF HZ NT EK CS EH TS Fx DH IW JE IC ZR CJ OY LL PM IM SQ EX QR CY KZ EZ PO IR FW JA MR LB MF LU MV Gk MH; simp only [CC, eq_self, implies_true, forall_const]
 refine ⟨λ hn => ?_, λ hn => ⟨⟨0, rfl, Nat.zero_le _, rfl⟩, ?_⟩⟩
 ·unfold samS
  have : (x.l.length == x.m.length) = false := by simp at hn ⊢; omega
  rw [this]; rfl
 ·have hl : (x.l.length == x.m.length) = true := by simp at hn ⊢; omega
  have hl2 : x.l.length = x.m.length := by simpa using hl
  rintro k ⟨hk, he⟩
  refine ⟨λ hlt => ⟨⟨⟨by omega, by omega⟩, by omega, by omega⟩, λ hc => ?_, λ hc => ⟨k + 1, by rw [NU (by omega) (by omega)]; rfl, ⟨by omega, BBL he ?_⟩, by omega⟩⟩, λ hge => ?_⟩
  ·unfold samS
   rw [ATK (f := eqS x) (show k < x.l.length by omega) (by rw [Bool.and_true] at hc; exact hc), Bool.and_false]
  ·rw [Bool.and_true] at hc; exact hc
  ·obtain rfl : k = x.l.length := by omega
   unfold samS; rw [hl, he]; rfl
theorem BIX : AR Try.prog AKG (C_samS.spec dSS2) := Bl C_samS BHX [] [] BGW (λ _ => by kernel_rfl) (λ _ => AI) (λ (x : SS2) h => BSH x h) (λ _ => Ec rfl rfl) _
structure PP2 where
 l : List Pr
 m : List Pr
def dPP2 : List AVal -> Heap -> Option (PP2 × List (Nat × Nat) × List Nat)
 | [x, y], H => match dPrs x H, dPrs y H with
  | some (l, f), some (m, e) => some (⟨l, m⟩, [], f ++ e)
  | _, _ => none
 | _, _ => none
def eqP (x : PP2) (i : Nat) : Bool := (gD x.l i).a == (gD x.m i).a && (gD x.l i).b == (gD x.m i).b
def samP (x : PP2) : Bool := x.l.length == x.m.length && eqN (eqP x) x.l.length
def C_samP : Ctr := { α := PP2, xs := λ x => [.d (Zo x.l), .d (Zo x.m)], val := λ x => .bool (samP x), keep := λ _ => [], pre := λ x => [x.l.length < 4611686018427387904 /\ x.m.length < 4611686018427387904] }
def sq4 (x : PP2) : Shape := { α := Nat, dflt := 0, T := λ k => ⟨[(0, .d (Zo x.l)), (1, .d (Zo x.m)), (5, .int k)], []⟩, inv := λ k => k <= x.l.length /\ eqN (eqP x) k = true, meas := λ k => x.l.length - k }
def BDO (x : PP2) : Ann := { ann 26 [] with loops := λ id => if id = 4 then some [sq4 x] else none }
def BIJ (x : PP2) : Prop := CR Try.prog (BDO x) AMG (AL AMG) (C_samP.xs x) (AE []) (C_samP.val x) [] [] []
abbrev H7:=PP2.l
abbrev L8:=PP2.m
abbrev Ik a:=SM (H7 a)
abbrev pJ a:=SM (L8 a)
attribute [go_sem] H7 L8 Ik pJ
theorem BLS (x : PP2) : (BIJ x) = (EZ (PX (CG (Ik x)) (CG (pJ x))) (EX (samP x)) (IF (λ i=>AH (WF (BU (Ik x)) (AF (λ j=>BR j (Ik x) (Ya (H7 x) j) (Yx (H7 x) j))) (BU (pJ x)) (λ j=>BR j (pJ x) (Ya (L8 x) j) (Yx (L8 x) j)) (CY i)) (CW i (Ik x)) (EK (eqN (eqP x) i)))) (AF (λ i=>MH (CW i (Ik x)) (EK (eqN (eqP x) i)) i (CG (Ik x)) (MR (IW i (Ik x)) (CG i) (pJ x)) (MV (not (Gk (VU (H7 x) i) (VU (L8 x) i) (Gk (VR (H7 x) i) (VR (L8 x) i) LX))) (EX (samP x)) (λ j=>FW (WF (BU (Ik x)) (AF (λ k=>BR k (Ik x) (Ya (H7 x) k) (Yx (H7 x) k))) (BU (pJ x)) (λ k=>BR k (pJ x) (Ya (L8 x) k) (Yx (L8 x) k)) (CJ j i)) (CW j (Ik x)) (EK (eqN (eqP x) j)) (Ik x) j i)) (EK (samP x))))) := by kernel_rfl
theorem BTJ (x : PP2) (h : x.l.length < 4611686018427387904 /\ x.m.length < 4611686018427387904) : BIJ x := by
 rw [BLS]<;> delta LV He PS SI CL AF CV DC AS CG CW FG PD HU KV UC MT IF Lv LX PX SM Sa H7 L8 AH AK BQ AJ BU BR JI GO FZ CX EF JF HZ EK CS EH DH IW JE CJ VR OY VU PM IM SQ EX QR CY KZ EZ IR FW MR MV Ik Gk MH WF Ya Yx pJ; simp only [CC, eq_self, implies_true, forall_const]
 refine ⟨λ hn => ?_, λ hn => ⟨⟨0, rfl, Nat.zero_le _, rfl⟩, ?_⟩⟩
 ·unfold samP
  have : (x.l.length == x.m.length) = false := by simp at hn ⊢; omega
  rw [this]; rfl
 ·have hl : (x.l.length == x.m.length) = true := by simp at hn ⊢; omega
  have hl2 : x.l.length = x.m.length := by simpa using hl
  rintro k ⟨hk, he⟩
  refine ⟨λ hlt => ⟨⟨⟨by omega, by omega⟩, by omega, by omega⟩, λ hc => ?_, λ hc => ⟨k + 1, by rw [NU (by omega) (by omega)]; rfl, ⟨by omega, BBL he ?_⟩, by omega⟩⟩, λ hge => ?_⟩
  ·unfold samP
   rw [ATK (f := eqP x) (show k < x.l.length by omega) (by rw [Bool.and_true] at hc; exact hc), Bool.and_false]
  ·rw [Bool.and_true] at hc; exact hc
  ·obtain rfl : k = x.l.length := by omega
   unfold samP; rw [hl, he]; rfl
theorem BKG : AR Try.prog AML (C_samP.spec dPP2) := Bl C_samP BDO [] [] BEQ (λ _ => by kernel_rfl) (λ _ => AI) (λ (x : PP2) h => BTJ x h) (λ _ => Ec rfl rfl) _
def oneM (x : I2) : Cht := ⟨⟨10, 12⟩, 500, 10, 5, [⟨0, 20⟩, ⟨10, 50⟩, ⟨30, 30⟩], [⟨0, ⟨0, 0⟩, ⟨0, 2000⟩⟩, ⟨2, ⟨x.a, x.b⟩, ⟨0, 2000⟩⟩]⟩
def BMV (x : I2) : Prop := CR Try.prog (ann 21 []) BFA (AL BFA) (xI2 x) (AE []) (.d (aK (oneM x))) [] [] [3064, 3192]
abbrev Dg:=oneM
abbrev Xc a b c:=MY a 0 b c
abbrev XP a b c d e:=Xc a b (Xc (Jy c) d e)
attribute [go_sem] Dg Xc XP
theorem BTP (x : I2) : (BMV x) = (AH (CB (GG (Dg x)) 10) (BN (GG (Dg x)) 12) (AN (Kq (Dg x) 500) (Ju (Dg x) 10) (Jq (Dg x) 5) (CL (BV (Dg x)) 3) (hJ 3) (AF (λ i=>Iz i (Dg x) (KR (Dg x) i (XP (DN i) 0 (DN i) 10 30)) i (XP (DN i) 20 (DN i) 50 30))) (MB (Dg x) 2) (hJ 2) (AF (λ i=>EP i (Dg x) (AK (KT (Dg x) i (Xc (DN i) 0 2)) (AS (AP (Dg x) i) (Xc (DN i) 0 (Ep x))) (BN (AO (Dg x) i) (Xc (DN i) 0 (ZQ x))) (CB (AM (Dg x) i) (Xc (DN i) 0 0)) (BN (AM (Dg x) i) (Xc (DN i) 2000 2000))))))) := by kernel_rfl
def BOO := pD dI2 λ x => .d (aK (oneM x))
theorem BRH : AR Try.prog BAP BOO := Lu xI2 hI2 λ g _ => Ky (A := ann 21 []) (ren := []) (fz := [3064, 3192]) BRX (by kernel_rfl) AI (by
 show BMV g; rw [BTP]<;> delta CI CH FE EE FH CL AF CV DC AS CW MT JT HP GG IQ IV IX JU GZ GM HK UN Fl mY Ep ZQ Dg AH DD EL AK BN BQ CF hJ AN AM BV BR BL AO DV DI CB EP HD DY AP DN MY MB KT KX KR Iz Xc Jy XP Jq Ju Kq; simp only [CC, eq_self, implies_true, forall_const]
 refine ⟨rfl, rfl, rfl, rfl, rfl, rfl, by decide, λ j hj => ?_, rfl, by decide, λ j hj => ?_⟩
 ·have hj : j < 3 := hj
  rcases j with _ | _ | _ | j
  ·exact ⟨rfl, rfl⟩
  ·exact ⟨rfl, rfl⟩
  ·exact ⟨rfl, rfl⟩
  ·omega
 ·have hj : j < 2 := hj
  rcases j with _ | _ | j
  ·exact ⟨rfl, rfl, rfl, rfl, rfl⟩
  ·exact ⟨rfl, rfl, rfl, rfl, rfl⟩
  ·omega)
def AWZ : Ann := ann 249 [(BAP, BOO), (H8, C_Stages.spec dC1), (ADM, C_Times.spec dCZ), (AKG, C_samS.spec dSS2), (ACS, C_Stops.spec dC1), (ALL, C_Pairs.spec dC1), (AID, C_prov.spec dPrv), (AML, C_samP.spec dPP2), (ADR, C_Stage.spec dCZI), (AMK, C_Peak.spec dCZ2), (ADL, C_First.spec dCZI)]
def AXQ : Prop := CR Try.prog AWZ ALR (AL ALR) [] (AE []) (.bool true) [] [] []
abbrev AOY:=@Prod.fst (List Span) Int
abbrev AIV:=@default Int Int.instInhabited
abbrev AIW:=Sym.elemOf
abbrev Co:=EG 2
abbrev YQ:=EG 3
abbrev AVZ a b:=Dg (I2.mk a b)
abbrev KC:=AVZ 310 320
abbrev Xn a:=AM KC a
abbrev Wz a:=BE KC a
abbrev Ym a:=AO KC a
abbrev Xs a:=AZ KC a
abbrev Xd a:=AP KC a
abbrev Zd a:=BD KC a
abbrev Yu a:=BG KC a
abbrev Ca a b c d e f:=GT a 3 b c d e f
abbrev VI:=BU 3
abbrev Bs:=My 5
abbrev LN:=My 10
abbrev Cp:=My 500
abbrev Bo:=My 12
abbrev JK:=AVZ 400 410
abbrev pB:=C2 JK
abbrev Yd a:=AOY (D5 a)
abbrev Su a:=AOY (SU (DG a))
abbrev Nn:=Dg (I2.mk 300 300)
attribute [go_sem] AOY AIV AIW Co YQ AVZ KC Xn Wz Ym Xs Xd Zd Yu Ca VI Bs LN Cp Bo JK pB Yd Su Nn
theorem BBR : (AXQ) = (AK (AH LN Bo (FM Cp LN Bs VI (λ i=>Ca i KC i KC i KC) TF (λ i=>EC i 2 (Yu i) (Zd i) (Xd i) (Xs i) (Ym i) (Wz i) (Xn i)) YQ Co)) (And LN (AN Bo Cp LN Bs VI (AF (λ i=>Ca i KC i KC i KC)) TF (AF (λ i=>EC i 2 (Yu i) (Zd i) (Xd i) (Xs i) (Ym i) (Wz i) (Xn i))) (WY AU YQ Co Pa))) (And LN (AN Bo Cp LN Bs VI (AF (λ i=>Ca i Nn i Nn i Nn)) TF (AF (λ i=>EC i 2 (BG Nn i) (BD Nn i) (AP Nn i) (AZ Nn i) (AO Nn i) (BE Nn i) (AM Nn i))) (WY AU YQ Co Pa))) (AH (Sd (And VI (xB (AF (λ i=>BR i 3 (BT (YH (Su KC) i) (IA (Su KC) i)) (BJ (YH (Su KC) i) (IA (Su KC) i)))) VI (AF (λ i=>BR i 3 (CB (IA (Eb 3 (λ j=>Di (XP j 695 j 995 795) (XP j 705 j 1005 805))) i) (XP i 695 i 995 795)) (BN (IA (Eb 3 (λ j=>Di (XP j 695 j 995 795) (XP j 705 j 1005 805))) i) (XP i 705 i 1005 805)))) YQ))) (Sd (And VI (xB (AF (λ i=>BR i 3 (BT (YH (Yd (CZ.mk (DG KC) (XS 0 (λ j=>AIV)))) i) (IA (Yd (CZ.mk (DG KC) (XS 0 (λ j=>AIV)))) i)) (BJ (YH (Yd (CZ.mk (DG KC) (XS 0 (λ j=>AIV)))) i) (IA (Yd (CZ.mk (DG KC) (XS 0 (λ j=>AIV)))) i)))) VI (AF (λ i=>BR i 3 (CB (IA (Eb 3 (λ j=>Di (XP j 0 j 100 310) (XP j 0 j 120 320))) i) (XP i 0 i 100 310)) (BN (IA (Eb 3 (λ j=>Di (XP j 0 j 100 310) (XP j 0 j 120 320))) i) (XP i 0 i 120 320)))) YQ))) (Sd (CS 1 3))) (WY (AH LN Bo (FM Cp LN Bs VI (λ i=>Ca i JK i JK i JK) TF (λ i=>EC i 2 (BG JK i) (BD JK i) (AP JK i) (AZ JK i) (AO JK i) (BE JK i) (AM JK i)) (And YQ Co) (CV CU (CW 2 14)))) (HF LN Bo Cp LN Bs VI (AF (λ i=>Ca i JK i JK i JK)) (AN TF (AF (λ i=>EC i 2 (BG JK i) (BD JK i) (AP JK i) (AZ JK i) (AO JK i) (BE JK i) (AM JK i))) (My 1) Ah VC (AF (λ i=>EA i 1 (VU (oQ 1 (λ j=>dPr (aU (qE (AIW (qB (M8 Yg) (M8 (Nq 1))))) j))) i) 0 (VR (oQ 1 (λ j=>dPr (aU (qE (AIW (qB (M8 Yg) (M8 (Nq 1))))) j))) i) 1)) YQ Co (EG 1))) (GH LN Bo Cp LN Bs VI (KI (AF (λ i=>Ca i JK i JK i JK)) TF (λ i=>EC i 2 (BG JK i) (BD JK i) (AP JK i) (AZ JK i) (AO JK i) (BE JK i) (AM JK i)) Ah VC (AF (λ i=>BQ i 1 (EV (ET (XS 1 (λ j=>0)) i)))) YQ Co (EG 1))) (AN (GH LN Bo Cp LN Bs VI (KI (AF (λ i=>Ca i JK i JK i JK)) TF (λ i=>EC i 2 (BG JK i) (BD JK i) (AP JK i) (AZ JK i) (AO JK i) (BE JK i) (AM JK i)) Ah VC (AF (λ i=>BQ i 1 (Jb (ET (XS 1 (λ j=>1)) i)))) YQ Co (EG 1))) (wS (Sd (And Ah (xB (AF (λ i=>EA i 1 (VU (oQ (SM pB) (λ j=>Sa pB j)) i) (VU pB i) (VR (oQ (SM pB) (λ j=>Sa pB j)) i) (VR pB i))) Ah (AF (λ i=>EA i 1 (VU (oQ 1 (λ j=>dPr (aU (qE (AIW (qB (M8 Yg) (M8 (Nq 1))))) j))) i) 0 (VR (oQ 1 (λ j=>dPr (aU (qE (AIW (qB (M8 Yg) (M8 (Nq 1))))) j))) i) 1)) (EG 1)))) (Sd (CS 1 3))) (GH LN Bo Cp LN Bs VI (KI (AF (λ i=>Ca i KC i KC i KC)) TF (λ i=>EC i 2 (Yu i) (Zd i) (Xd i) (Xs i) (Ym i) (Wz i) (Xn i)) AU AU (My 50) YQ Co Pa)) (GH LN Bo Cp LN Bs VI (KI (AF (λ i=>Ca i KC i KC i KC)) TF (λ i=>EC i 2 (Yu i) (Zd i) (Xd i) (Xs i) (Ym i) (Wz i) (Xn i)) AU AU (My 320) YQ Co Pa)) (GH LN Bo Cp LN Bs VI (KI (AF (λ i=>Ca i KC i KC i KC)) TF (λ i=>EC i 2 (Yu i) (Zd i) (Xd i) (Xs i) (Ym i) (Wz i) (Xn i)) AU AU (My 321) YQ Co Pa)) (HF LN Bo Cp LN Bs VI (AF (λ i=>Ca i KC i KC i KC)) (Ly TF (AF (λ i=>EC i 2 (Yu i) (Zd i) (Xd i) (Xs i) (Ym i) (Wz i) (Xn i))) AU (AK CU (My 110) YQ Co Pa))) (GH LN Bo Cp LN Bs VI (KI (AF (λ i=>Ca i KC i KC i KC)) TF (λ i=>EC i 2 (Yu i) (Zd i) (Xd i) (Xs i) (Ym i) (Wz i) (Xn i)) AU AU (My 1000) YQ Co Pa)) (GH LN Bo Cp LN Bs VI (KI (AF (λ i=>Ca i KC i KC i KC)) TF (λ i=>EC i 2 (Yu i) (Zd i) (Xd i) (Xs i) (Ym i) (Wz i) (Xn i)) AU AU (My 995) YQ Co Pa)) IZ))) := by kernel_rfl
def AVE : List AVal -> Option (AVal × List Prop)
 | [] => some (.bool true, [])
 | _ => none
def AXW : Sym.Spec := mH AVE
theorem BLL : AXQ := by
 rw [BBR]<;> delta LV CI CH FE SI EE FH CL GY AF CV DC AS IA CG UB CW HU KV MT JT HP GG IQ IV IX JU GZ GM HK LC Eb ET XS LX Fl mY Di SM Sa oQ APD xH Wa Dg AOY AIV AIW AH DD EL EW GS AK BN BQ CF AJ HR wS GI BU FT hJ WY Ly xB BJ AN AM AZ BR JD AO DZ EI DV DI CB GN AVZ DG DY AP BT BE FZ Ua CX GF FA CM GR JF GQ BD BH EG IT UJ CS GD EC KC OD MY EA AU FM BG My GT YH VR CU JK EV VU GH Nq Xc IZ KI HF TF LN Jy Yg VC VI qE Nx YQ qB Bs Co Cp Ah XP Bo Nn C2 Sd Pa Su Yd Yu Zd Xd Ym Xs Xn Wz pB Jb Ca; simp only [CC, eq_self, implies_true, forall_const]
 decide +kernel
theorem BGU : AR Try.prog ANG AXW := iN λ xs v p h _ => by
 unfold AVE at h; split at h
 ·cases h; exact Ky (A := AWZ) (ren := []) (fz := []) BGB (by kernel_rfl) (AC BRH (AC AQJ (AC APP (AC BIX (AC AQD (AC BCX (AC BKM (AC BKG (AC ARC (AC AYD (AC AQP AI))))))))))) BLL
 ·cases h
end Go.Bal
