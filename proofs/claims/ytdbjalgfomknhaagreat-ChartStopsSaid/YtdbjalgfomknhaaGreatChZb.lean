/- Package chart, with the reference: Stages, lists of stops, gaps, notes. -/
import Derived.Test.YtdbjalgfomknhaaGreatChZa
set_option linter.unusedVariables false
set_option linter.unusedSimpArgs false
namespace Go.Bal
open Go Go.Sym Go.Proofs
def zg6n (c : Cht) : Shape := { α := One, dflt := default, T := λ _ => ⟨[(1, .bptr 201 0), (5, .d Ou), (6, .int 0)], [(201, .live (gI c))]⟩, inv := λ _ => AI c = 0, meas := λ _ => 50, first := [(201, 1000)] }
def zg6o (c : Cht) : Shape := { α := Nat, dflt := 0, T := λ k => ⟨[(1, .bptr 201 0), (5, .own 202 2 0 k), (6, .int k)], [(201, .live (gI c)), (202, .live (.row 2 k λ i => IK (bT c (i : Int))))]⟩, inv := λ k => (AI c = 0 /\ 1 <= k /\ k <= c.ms.length) /\ ∀ i : Nat, i < k -> He (bT c i) = true, meas := λ k => 40 - k, again := [(202, 12048)] }
def AKE (c : Cht) : Ann := { ann 33 [(Ph, C_Check.spec aM), (I9, C_zst.spec dCtI)] with mt := λ id => id == 11, loops := λ id => if id = 6 then some [zg6n c, zg6o c] else none }
def AIY (c : Cht) : Prop := CF Try.prog (AKE c) H5 (AH H5) (C_Stages.xs c) (AB []) (.tup [.d (DC (TB c).1), .int (TB c).2]) [] [] [202]
abbrev ASI:=@Prod.fst (List Span) Int
abbrev AFY:=@Prod.snd (List Span) Int
abbrev fH a:=AFY (TB a)
abbrev lJ a:=ASI (TB a)
abbrev Je a b c d e f:=Gd a b c d e a f
attribute [go_sem] ASI AFY fH lJ Je
theorem AVW (c : Cht) : (AIY c) = (SA c c (RP c) (PV c) (Eh (XN c) (lJ c) (AS (fH c) (SQ c)) (ZB (GP AT FG DJ (DG c) (LB c)) (ZD (LB c) 0 (KF c) (GP (AJ c) (AL c) (AM c) (JJ (AN c) c (BP c) (HM c) (BN c) (λ i=>BG i c) (Jf 0) (HF 0 (EH c)) (Rv c)) (Eh (XS (BI (Ld (CU c) 0)) (BF (Ld (CU c) 0))) (lJ c) (Gb (fH c)) (EG WM Np VL VB (UO 16) (HA (λ i=>ZH (Je (MI i) (Kh i) (AJ c) c c (AF (λ j=>BA j i (BJ (WN c j) (Ld (CU c) 0)) (AW (WN c j) (Ld (CU c) 0))))) (HZ (AD (LB c) (KT i) (Cb i c)) (λ j=>AX j i (CS (He (WN c j))))) (JB 40 i 50)))))) (YO (Mr (lJ c)) (IM (fH c)))) (λ i=>NR (HZ (AD (LB c) (KT i) (Cb i c)) (λ j=>AX j i (CS (He (WN c j))))) i (KF c) (GP (AJ c) (AL c) (AM c) (JJ (AN c) c (BP c) (HM c) (BN c) (λ j=>BG j c) (FS i) (HF (BE i) (EH c)) (Rv c)) (Eh (XS (BI (WN (CU c) i)) (BF (WN (CU c) i))) (lJ c) (Gb (fH c)) (EG (Dj i i) Np UP (VA i) (UO (Dh i)) (HA (λ j=>WL (Je (SJ j i) (BR j i) (AJ c) c c (AF (λ k=>BA k j (BO (WN c k) (KX k i (BI (WN c k)) (BI (WN (CU c) i)))) (AZ (WN c k) (KX k i (BF (WN c k)) (BF (WN (CU c) i))))))) (HZ (AD (LB c) (KT j) (Cb j c)) (λ k=>AX k j (CS (He (WN c k))))) 40 j i))))) (And (OW (lJ c) i) (HU (OF i) (λ j=>NQ j (lJ c) j (WN c (CM j))) (IM (fH c)))))))) := by kernel_rfl
theorem AWZ {c : Cht} (h : AI c ≠ 0) : TB c = ([], AI c) := by
 unfold TB; rw [show (AI c == 0) = false by simpa using h]; rfl
theorem fV {c : Cht} (h : AI c = 0) : TB c = bif Hq c then (Et c, 0) else ([], 6) := by
 unfold TB; rw [h]; rfl
theorem ASH {c : Cht} (h : AI c = 0) {i : Nat} (hi : i < c.ms.length) (hl : (bT c i).lo > (bT c i).hi) : TB c = ([], 6) := by
 rw [fV h]
 cases hq : Hq c with
 | false => rfl
 | true =>
  have := AAC.1 hq i (by rw [show (Et c).length = c.ms.length from rng_length _ _]; exact hi)
  rw [AOE hi] at this; omega
theorem BCS (c : Cht) (h : c.ms.length < 4611686018427387904 /\ c.ns.length < 4611686018427387904) : AIY c := by
 rw [AVW]<;> delta JH Hi BI BF EN MM ON EB EA BY EL AF CN CO AS KA BE XB EU EC JL FY MN NT LS ET GW FK HV IB HK GV FU HC DV FW EY LD HA FL LC XS RX SI Ai Ld TE Yb Ho ASI AFY AD CI AU FT GN AG GK AZ AX AE FA BM GQ Sb YO AW JP BL BD AO AR DD BA BK II JQ BO BJ CX HI BW BV AJ AQ JD AV EH FC NH CK AN AL GH JE JO HG FX FQ FO MR AM IV FD HE DK ID DR CM ES BX CG DO OX BC IW HS DX JR HH JA CE EZ OJ CS EV EQ CU FH HQ DZ KF EW AT DU JB HR HO BR FZ GI BN GA GC EO HD PF LG IM FS SX MU IS UD EX LB OW DJ Sf HF BP MQ MX EI LV BH BG LM WR DI HZ KT OQ HB IQ GG YF GM VY EG WN FG DG Ch IN UO RD KX SQ KS TL HM GP TP MI MH SJ PV OF ZO HU JJ ZD WT eC Gm Mr RP Np Gd NR NQ Je Ec Pw Cc UP Ip Cb VB VA VL Jb XN WM Eh Ft YW Dj XV SA ZB Dh Jf ZH Gb Rv fH lJ WL Kh; simp only [CC, eq_self, implies_true, forall_const, CL]
 refine ⟨h, λ h1 => ?_, λ h1 => ?_⟩
 ·rw [AWZ (by simpa using h1)]; exact ⟨rfl, rfl, rfl⟩
 have h0 : AI c = 0 := by simpa using h1
 obtain ⟨_, ⟨n1, n2⟩, n3⟩ := OR h0
 refine ⟨⟨default, h0⟩, λ _ => ⟨λ hlt => ⟨⟨rfl, by omega, h0⟩, λ hg => ?_, λ hg => ⟨⟨by omega, by omega, by omega, by omega, by omega⟩, 1, ⟨rfl, rfl, rfl, λ i hi => ?_⟩, ⟨⟨h0, by omega, by omega⟩, λ i hi => ?_⟩, by omega⟩⟩, λ hge => absurd hge (by omega)⟩, λ k ⟨⟨_, k1, k2⟩, k3⟩ => ⟨λ hlt => ⟨⟨by omega, h0⟩, λ hg => ?_, λ hg => ⟨⟨by omega, by omega, by omega, by omega⟩, k + 1, ⟨rfl, (HL (by omega)).symm, rfl, λ i hi => ?_⟩, ⟨⟨h0, by omega, by omega⟩, λ i hi => ?_⟩, by omega⟩⟩, λ hge => ?_⟩⟩
 ·rw [ASH (i := 0) h0 (by omega) hg]; exact ⟨rfl, rfl, rfl⟩
 ·obtain rfl : i = 0 := by omega
  exact ⟨rfl, rfl⟩
 ·obtain rfl : i = 0 := by omega
  unfold He; exact decide_eq_true (by show (bT c 0).lo <= (bT c 0).hi; omega)
 ·rw [ASH h0 (by omega) hg]; exact ⟨rfl, rfl, rfl⟩
 ·by_cases h : i < k
  ·simp [h]
  ·obtain rfl : i = k := by omega
   simp
 ·by_cases h : i < k
  ·exact k3 i h
  ·obtain rfl : i = k := by omega
   unfold He; exact decide_eq_true (by omega)
 ·obtain rfl : k = c.ms.length := by omega
  have hq : Hq c = true := AAC.2 λ i hi => by
   have hi : i < c.ms.length := by rw [show (Et c).length = c.ms.length from rng_length _ _] at hi; exact hi
   rw [AOE hi]
   have := k3 i hi
   unfold He at this; exact of_decide_eq_true this
  rw [fV h0, hq]
  refine ⟨rng_length _ _, by omega, λ j hj => ?_, rfl⟩
  have hj : j < c.ms.length := by simpa [Et] using hj
  show (gD (Et c) j).lo = _ /\ (gD (Et c) j).hi = _
  rw [AOE hj]; exact ⟨rfl, rfl⟩
theorem AVN : AK Try.prog L0 (C_Stages.spec aM) := VV C_Stages AKE [] [202] AUE (λ _ => by kernel_rfl) (λ _ => AA bY (AA BXQ AC)) BCS (λ _ => WY rfl rfl) _
def vQ (z : List Int) : Nat -> Int
 | 0 => -1
 | k + 1 => gD z k
def zu2 (a : CZ) : Shape := { α := Nat, dflt := 0, T := λ k => ⟨[(1, .d (PH a.z)), (2, .bptr 201 0), (5, .int k)], [(201, .live (gI a.c))]⟩, inv := λ k => k <= a.z.length /\ (-1 <= vQ a.z k /\ vQ a.z k <= 40) /\ Fj a.c.ms.length (vQ a.z k) (a.z.drop k) = V6 a, meas := λ k => a.z.length - k, first := [(201, 1000)] }
def C_zUnl : Ctr := { α := CZ, xs := xCZ, val := λ a => .bool (!V6 a), keep := λ _ => [], pre := λ a => [a.z.length < 4611686018427387904 /\ AI a.c = 0] }
def BFJ (a : CZ) : Ann := { ann 37 [(E0, ABF)] with loops := λ id => if id = 2 then some [zu2 a] else none }
def BFK (a : CZ) : Prop := CF Try.prog (BFJ a) AUT (AH AUT) (xCZ a) (AB []) (C_zUnl.val a) [] [] []
abbrev Wl a b:=vQ (LO a) b
abbrev mC a:=BE (UB a)
attribute [go_sem] Wl mC
theorem BMD (a : CZ) : (BFK a) = (FV (λ i=>GP (YQ (LO a)) (VW (LO a)) (BZ i) (LV (GB a) (BM (UB a)) (λ j=>BA j (UB a) (HQ (GB a) j) (HS (GB a) j)) (DI (GB a))) (AD (XJ i (LO a)) (And (FY (-1) (Wl a i)) (Xk (Wl a i))) (JH (Fj (mC a) (Wl a i) (iL i (LO a))) (V6 a)))) (λ i=>JF (AD (XJ i (LO a)) (And (FY (-1) (Wl a i)) (Xk (Wl a i))) (JH (Fj (mC a) (Wl a i) (iL i (LO a))) (V6 a))) i (YD (LO a)) (TH i i (CJ (LO a)) (HX (and (not (Ef (DN (LO a) i) (GO (mC a) 2))) (eU i)) (BE i) (CJ (LO a))) (HX (and (not (Ef (DN (LO a) i) (GO (mC a) 2))) (eU i)) (LZ (BE i)) (CJ (LO a)))) (NG (PP (Ef (DN (LO a) i) (GO (mC a) 2)) (LJ (eU i) (hd7 (DN (LO a) i) (DN (LO a) (EP (LZ (BE i))))))) (CS (not (V6 a))) (λ j=>GM (YQ (LO a)) (AD (VW (LO a)) (BR j i) (LV (GB a) (BM (UB a)) (λ k=>BA k (UB a) (HQ (GB a) k) (HS (GB a) k)) (DI (GB a)))) (AD (XJ j (LO a)) (And (FY (-1) (Wl a j)) (Xk (Wl a j))) (JH (Fj (mC a) (Wl a j) (iL j (LO a))) (V6 a))) (CJ (LO a)) j i)) (GR (not (V6 a))))) := by kernel_rfl
theorem AED {z : List Int} {m : Int} {k : Nat} (hk : k < 4611686018427387904) (hp : -1 <= vQ z k /\ vQ z k <= 40) {v : Bool} (h : (bif !TD (gD z k) 0 (IntKind.i64.wrap (m - 2)) then true else bif decide ((k : Int) > 0) then decide (gD z k <= gD z (IntKind.i64.wrap ((k : Int) - 1)).toNat) else false) = v) : TD (gD z k) (wr (vQ z k + 1)) (wr (m - 2)) = !v := by
 have e1 : wr (vQ z k + 1) = vQ z k + 1 := TC (by omega) (by omega)
 have e2 : (bif decide ((k : Int) > 0) then decide (gD z k <= gD z (IntKind.i64.wrap ((k : Int) - 1)).toNat) else false) = (decide ((k : Int) > 0) && decide (gD z k <= vQ z k)) := by
  rcases k with _ | k
  ·rfl
  ·rw [show IntKind.i64.wrap (((k + 1 : Nat) : Int) - 1) = (k : Int) from by rw [TC (by omega) (by omega)]; omega]
   rw [decide_eq_true (show ((k + 1 : Nat) : Int) > 0 by omega)]; rfl
 have e3 : (k : Int) > 0 ∨ vQ z k = -1 := by
  rcases k with _ | k
  ·exact .inr rfl
  ·exact .inl (by omega)
 rw [e1, <- h, e2]
 show TD (gD z k) (vQ z k + 1) (IntKind.i64.wrap (m - 2)) = _
 generalize IntKind.i64.wrap (m - 2) = w
 unfold TD
 generalize vQ z k = p at hp e3
 generalize gD z k = g
 by_cases h1 : p + 1 <= g <;> by_cases h2 : g <= w <;> by_cases h3 : 0 <= g <;> by_cases h4 : (k : Int) > 0 <;> by_cases h5 : g <= p <;> simp [h1, h2, h3, h4, h5] <;> omega
theorem BUW (a : CZ) (h : a.z.length < 4611686018427387904 /\ AI a.c = 0) : BFK a := by
 obtain ⟨hz, h0⟩ := h
 obtain ⟨_, ⟨n1, n2⟩, n3⟩ := OR h0
 rw [BMD]<;> delta JH zU hd7 Hi BI BF EN MM ON Ep EB EA BY AF CN CO AS BE EU EC JL FY MN NT LS ET GW FK HV IB HK GV FU HC DV FW EY HA LC XS EP CJ DN iL GB LO AD CI AU AG AZ AX UB AE BM AW BL BD AO AR DD BA BK CX HI BW BV AJ AQ AV FC CK AN AL GH HG FX AM HE DK ID DR GO BX CG DO BC HS HH CE PM CS LZ HQ DZ JB ED HO BR YQ PF LG SX MU JM XJ GR QV LJ VQ iQ HF MQ EI LV DI HZ IR BZ GM PP HX FV Nn Aw JF GP Ef WB VW NG YD kD Wl TH eU Xk mC; simp only [CC, eq_self, implies_true, forall_const]
 refine ⟨⟨0, rfl, Nat.zero_le _, ⟨by show (-1 : Int) <= -1; omega, by show (-1 : Int) <= 40; omega⟩, rfl⟩, λ k ⟨k1, k2, k3⟩ => ⟨λ hlt => ?_, λ hge => ?_⟩⟩
 ·have hlt : k < a.z.length := by omega
  rw [AAA hlt] at k3
  refine ⟨⟨by omega, λ _ => by omega, λ h => ?_⟩, λ h4 => ?_, λ h4 => ⟨k + 1, (HL (by omega)).symm, ⟨by omega, ?_, ?_⟩, by omega⟩⟩
  ·have := (Bool.and_eq_true .. ▸ h).2
   have := of_decide_eq_true this
   rw [TC (by omega) (by omega)]; omega
  ·rw [<- k3]; unfold Fj; rw [AED (by omega) k2 h4]; rfl
  ·have := AED (by omega) k2 h4
   have := KJ.1 this
   have e1 : wr (vQ a.z k + 1) = vQ a.z k + 1 := TC (by omega) (by omega)
   have e2 : wr ((a.c.ms.length : Int) - 2) = (a.c.ms.length : Int) - 2 := TC (by omega) (by omega)
   show -1 <= gD a.z k /\ gD a.z k <= 40
   omega
  ·rw [<- k3]; conv => rhs; unfold Fj
   rw [AED (by omega) k2 h4]; rfl
 ·rw [<- k3, List.drop_of_length_le (by omega)]; rfl
theorem BOU : AK Try.prog AWC (C_zUnl.spec dCZ) := VV C_zUnl BFJ [] [] BNG (λ _ => by kernel_rfl) (λ _ => AA APW AC) (λ a h => BUW a h) (λ _ => WY rfl rfl) _
structure ZG where
 z : List Int
 g : Int
def dZG : List AVal -> Heap -> Option (ZG × List (Nat × Nat) × List Nat)
 | [y, .d k], H => match ACO y H with
  | some (l, e) => some (⟨l, HJ k⟩, [], e)
  | none => none
 | _, _ => none
def xZG (a : ZG) : List AVal := [.d (PH a.z), .int a.g]
def stnd (z : List Int) (g : Int) : Bool := z.any λ x => x == g
def zd2 (a : ZG) : Shape := { α := Nat, dflt := 0, T := λ k => ⟨[(0, .d (PH a.z)), (1, .int a.g), (5, .int k)], []⟩, inv := λ k => k <= a.z.length /\ ∀ i, i < k -> gD a.z i ≠ a.g, meas := λ k => a.z.length - k }
def C_zSta : Ctr := { α := ZG, xs := xZG, val := λ a => .bool (stnd a.z a.g), keep := λ _ => [], pre := λ a => [a.z.length < 4611686018427387904] }
def BFC (a : ZG) : Ann := { ann 18 [] with loops := λ id => if id = 2 then some [zd2 a] else none }
def BJX (a : ZG) : Prop := CF Try.prog (BFC a) I0 (AH I0) (xZG a) (AB []) (C_zSta.val a) [] [] []
abbrev Ky:=ZG.z
attribute [go_sem] Ky
theorem BLR (a : ZG) : (BJX a) = (FV (λ i=>CE (YQ (Ky a)) (AD (VW (Ky a)) (AE (ZG.g a)) (BZ i)) (XJ i (Ky a)) (AF (λ j=>AX j i (Lc (DN (Ky a) j) (ZG.g a))))) (λ i=>NR (IH i (CJ (Ky a)) (AF (λ j=>AX j i (Lc (DN (Ky a) j) (ZG.g a))))) i (YD (Ky a)) (FF i (CJ (Ky a)) (NG (Ey (DN (Ky a) i) (ZG.g a)) (CS (stnd (Ky a) (ZG.g a))) (λ j=>GM (YQ (Ky a)) (AD (VW (Ky a)) (AE (ZG.g a)) (BR j i)) (IH j (CJ (Ky a)) (AF (λ k=>AX k j (Lc (DN (Ky a) k) (ZG.g a))))) (CJ (Ky a)) j i))) (GR (stnd (Ky a) (ZG.g a))))) := by kernel_rfl
theorem AHJ {z : List Int} {g : Int} : stnd z g = true ↔ g ∈ z := by
 unfold stnd; rw [List.any_eq_true]
 exact ⟨λ ⟨x, hx, e⟩ => (by simpa using e : x = g) ▸ hx, λ h => ⟨g, h, by simp⟩⟩
theorem BWM (a : ZG) (h : a.z.length < 4611686018427387904) : BJX a := by
 rw [BLR]<;> delta JH Hi MM ON BY AF CN CO AS BE EU EC JL FY MN NT LS HA Ey LC CJ DN Lc Ky AD AX AE BM HI GH DK BX DO BC HH CE PM CS DZ JB BR YQ LG IH JM RV XJ GR iQ MQ HZ BZ GM TK FV TL FF Aw ZD VW NG NR YD; simp only [CC, eq_self, implies_true, forall_const]
 refine ⟨⟨0, rfl, Nat.zero_le _, λ i hi => absurd hi (Nat.not_lt_zero _)⟩, λ k ⟨k1, k2⟩ => ⟨λ hlt => ⟨by omega, λ h4 => ?_, λ h4 => ⟨k + 1, (HL (by omega)).symm, ⟨by omega, λ i hi => ?_⟩, by omega⟩⟩, λ hge => ?_⟩⟩
 ·exact AHJ.2 ((by simpa using h4 : gD a.z k = a.g) ▸ HW (by omega))
 ·by_cases e : i = k
  ·subst e; simpa using h4
  ·exact k2 i (by omega)
 ·cases hq : stnd a.z a.g with
  | false => rfl
  | true =>
   obtain ⟨i, hi, e⟩ := OV (AHJ.1 hq)
   exact absurd e (k2 i (by omega))
theorem BNI : AK Try.prog nS (C_zSta.spec dZG) := VV C_zSta BFC [] [] AUO (λ _ => by kernel_rfl) (λ _ => AC) (λ a h => BWM a h) (λ _ => WY rfl rfl) _
def C_zLea : Ctr := { α := CtI, xs := λ a => [.d (Ak a.c), .int a.k], val := λ a => .int (a.c.p.lo * RJ a.c a.k.toNat), keep := λ _ => [], pre := λ a => [(0 <= a.k /\ a.k + 1 < a.c.ms.length) /\ AI a.c = 0] }
def BDP (a : CtI) : Prop := CF Try.prog (ann 23 []) AFG (AH AFG) (C_zLea.xs a) (AB []) (C_zLea.val a) [] [] []
theorem BOQ (a : CtI) : (BDP a) = (And (SB (DO (Ex a)) (AU (OA a)) (Ex a)) (AS (Bu (Ng (OA a)) (RJ (OA a) (EP (Ex a)))) (Kf (Ng (OA a)) (Qt (OA a) (DO (Ex a))) (Qt (OA a) (Ex a))))) := by kernel_rfl
theorem BJN {c : Cht} (h0 : AI c = 0) {k : Int} (hk : 0 <= k /\ k + 1 < c.ms.length) : IntKind.i64.wrap (k + 1) = k + 1 /\ IntKind.i64.wrap (c.p.lo * IntKind.i64.wrap ((gD c.ms (k + 1).toNat).pl - (gD c.ms k.toNat).pl)) = c.p.lo * RJ c k.toNat /\ IntKind.i64.wrap (c.p.hi * IntKind.i64.wrap ((gD c.ms (k + 1).toNat).pl - (gD c.ms k.toNat).pl)) = c.p.hi * RJ c k.toNat := by
 have h := MA.1 h0
 obtain ⟨m1, m2⟩ := h.m
 have hf := h.far (g := k.toNat) (by omega)
 have hg := h.gap (λ _ => false) (g := k.toNat) (by omega)
 have e : (k + 1).toNat = k.toNat + 1 := by omega
 rw [e]
 have e2 : IntKind.i64.wrap ((gD c.ms (k.toNat + 1)).pl - (gD c.ms k.toNat).pl) = RJ c k.toNat := TC (by unfold RJ at hf; omega) (by unfold RJ at hf; omega)
 rw [e2]
 exact ⟨TC (by omega) (by omega), TC (by omega) (by omega), TC (by omega) (by omega)⟩
theorem BPO : AK Try.prog AHP (C_zLea.spec dCtI) := VV C_zLea (λ _ => ann 23 []) [] [] BCK (λ _ => by kernel_rfl) (λ _ => AC) (λ (a : CtI) h => by
 obtain ⟨hk, h0⟩ : (0 <= a.k /\ a.k + 1 < a.c.ms.length) /\ AI a.c = 0 := h
 obtain ⟨e1, e2, _⟩ := BJN h0 hk
 show BDP a; rw [BOQ]<;> delta BI MM ON Ep AS BE FY MN NT ET GW FK GV FU EP Bu Ex OA AD AU DD HI BV GH DK GO BX DO CE iJ VQ SP Ei SB Ng Kf Qt; rw [e1, e2]
 exact ⟨⟨⟨by omega, by omega⟩, by omega, by omega⟩, rfl⟩) (λ _ => WY rfl rfl) _
structure CZG where
 a : CZ
 g : Int
def dCZG : List AVal -> Heap -> Option (CZG × List (Nat × Nat) × List Nat)
 | [x, y, .d k], H => match kV x H, ACO y H with
  | some (c, f), some (l, e) => some (⟨⟨c, l⟩, HJ k⟩, [], f ++ e)
  | _, _ => none
 | _, _ => none
def Pe (a : CZ) (g : Int) : Int := bif stnd a.z g then 300000000 else a.c.p.hi * RJ a.c g.toNat
def C_zMos : Ctr := { α := CZG, xs := λ x => [.d (Ak x.a.c), .d (PH x.a.z), .int x.g], val := λ x => .int (Pe x.a x.g), keep := λ _ => [], pre := λ x => [(0 <= x.g /\ x.g + 1 < x.a.c.ms.length) /\ x.a.z.length < 4611686018427387904 /\ AI x.a.c = 0] }
def BLI (x : CZG) : Prop := CF Try.prog (ann 28 [(nS, C_zSta.spec dZG)]) AMZ (AH AMZ) (C_zMos.xs x) (AB []) (C_zMos.val x) [] [] []
abbrev iI:=CZG.a
abbrev rB:=CZG.g
abbrev qT:=Pe
attribute [go_sem] iI rB qT
theorem BOV (x : CZG) : (BLI x) = (GP (MK (iI x)) (AF (λ i=>MO i (iI x))) (AE (rB x)) (JX (CJ (YR (iI x))) 4611686018427387904) (Bs (stnd (YR (iI x)) (rB x)) (AS (qT (iI x) (rB x)) 300000000) (SB (DO (rB x)) (UB (iI x)) (rB x)) (AS (qT (iI x) (rB x)) (Kf (BF (FK (GB (iI x)))) (Qt (GB (iI x)) (DO (rB x))) (Qt (GB (iI x)) (rB x)))))) := by kernel_rfl
theorem AZX : AK Try.prog Z3 (C_zMos.spec dCZG) := VV C_zMos (λ _ => ann 28 [(nS, C_zSta.spec dZG)]) [] [] BKB (λ _ => by kernel_rfl) (λ _ => AA BNI AC) (λ (x : CZG) h => by
 obtain ⟨hk, hz, h0⟩ : (0 <= x.g /\ x.g + 1 < x.a.c.ms.length) /\ x.a.z.length < 4611686018427387904 /\ AI x.a.c = 0 := h
 obtain ⟨e1, _, e2⟩ := BJN h0 hk
 show BLI x; rw [BOV]<;> delta BF MM ON Ep BY AF CN CO AS BE EC FY MN NT ET GW FK GV FU EP GZ CJ DN GB RU LO Bu iI rB qT AD AU AX UB AE DD VR HI BV YR GH DK GO BX DO BC CE PM LL QR QP DY MW iJ VQ SK GF JX GP XW SP XO MK Ei MO SB Kf Bs Qt; simp only [CC, eq_self, implies_true, forall_const]; rw [e1, e2]
 refine ⟨hz, λ h => ?_, λ h => ⟨⟨⟨by omega, by omega⟩, by omega, by omega⟩, ?_⟩⟩
 ·unfold Pe; rw [h]; rfl
 ·unfold Pe; rw [h]; rfl) (λ _ => WY rfl rfl) _
def ntS (c : Cht) : Nat -> Nat -> Span
 | 0, _ => farS
 | k + 1, i => bif decide (i = (gD c.ns k).mi.toNat) then (gD c.ns k).t else ntS c k i
def zn3n (c : Cht) : Shape := { α := One, dflt := default, T := λ _ => ⟨[(1, .bptr 201 0), (3, .d Ou), (4, .int 0)], [(201, .live (gI c))]⟩, inv := λ _ => True, meas := λ _ => 50, first := [(201, 1000)] }
def zn3o (c : Cht) : Shape := { α := Nat, dflt := 0, T := λ k => ⟨[(1, .bptr 201 0), (3, .own 202 2 0 k), (4, .int k)], [(201, .live (gI c)), (202, .live (.row 2 k λ i => IK farS))]⟩, inv := λ k => 1 <= k /\ k <= c.ms.length, meas := λ k => 40 - k, again := [(202, 6048)] }
def zn6c (c : Cht) : Shape := { α := One, dflt := default, T := λ k => ⟨[(1, .bptr 201 0), (3, .own 202 2 0 c.ms.length)], [(201, .live (gI c)), (202, .live (.row 2 c.ms.length λ i => IK farS))]⟩, inv := λ _ => True, meas := λ _ => 0 }
def zn7 (c : Cht) : Shape := { α := Nat, dflt := 0, T := λ k => ⟨[(1, .bptr 201 0), (3, .own 202 2 0 c.ms.length), (5, .int k)], [(201, .live (gI c)), (202, .live (.row 2 c.ms.length λ i => IK (ntS c k i)))]⟩, inv := λ k => k <= c.ns.length, meas := λ k => c.ns.length - k }
def C_zNot : Ctr := { α := Cht, xs := λ c => [.d (Ak c)], val := λ c => .d (DC (Sz c)), keep := λ _ => [], pre := λ c => [AI c = 0] }
def BGA (c : Cht) : Ann := { ann 39 [] with mt := λ id => id == 5, loops := λ id => if id = 3 then some [zn3n c, zn3o c] else if id = 7 then some [zn7 c] else none, cut := λ id => if id = 6 then some [zn6c c] else none }
def BIY (c : Cht) : Prop := CF Try.prog (BGA c) AGQ (AH AGQ) (C_zNot.xs c) (AB []) (C_zNot.val c) [] [] [202]
theorem BOI (c : Cht) : (BIY c) = (And (ZB (GP AT FG DJ (DG c) FL) (IR FL 0 (KF c) (ZK WM VL VB 16) (HA (λ i=>ZH (Je (MI i) (Kh i) (AJ c) c c (AF (λ j=>Zs j i (Int.negSucc 99999999) (UD 100000000)))) (KR i (AU c)) (JB 40 i 50))) KG) (λ i=>JF (KR i (AU c)) i (KF c) (ZK (Dj i i) UP (VA i) (Dh i)) (HA (λ j=>WL (Je (SJ j i) (BR j i) (AJ c) c c (AF (λ k=>BA k j (BO Sk (KX k i (BI Sk) (-100000000))) (AZ Sk (KX k i (BF Sk) 100000000))))) (KR j (AU c)) 40 j i)) (TE (λ j=>EG AT (BY (AU c) i) (AJ c) (AL c) (ZO c (BY (AU c) i) (AF (λ k=>FQ k c (AE (Int.negSucc 99999999)) (UD 100000000)))) FL)))) (XL (FV (λ i=>VE (Je (DX c) (BZ i) (AJ c) c c (AF (λ j=>FQ j c (BJ (ntS c i j) Sk) (AW (ntS c i j) Sk)))) (Ee i c)) (λ i=>JF (Ee i c) i (KV c) (FF i (AO c) (TH i i (AO c) (HF (BW c i) (AU c)) (QI (BW c i) (AU c)))) (HA (λ j=>WL (Je (DX c) (BR j i) (AJ c) c c (AF (λ k=>FQ k c (BO (ntS c j k) (RS k (BW c i) (BI (BD c i)) (BI (ntS c i k)))) (AZ (ntS c j k) (RS k (BW c i) (BF (BD c i)) (BF (ntS c i k))))))) (Ee j c) (AO c) j i)) (GG (HD (EL (Up c)) c) (OF (AU c)) (λ j=>NQ j (Up c) j (ntS c i (CM j)))))))) := by kernel_rfl
theorem BKX {c : Cht} {m : Nat} : ∀ k, (∀ i, i < k -> (gD c.ns i).mi.toNat ≠ m) -> ntS c k m = farS
 | 0, _ => rfl
 | k + 1, h => by
  show (bif decide (m = (gD c.ns k).mi.toNat) then _ else _) = _
  rw [decide_eq_false λ e => h k (Nat.lt_succ_self _) e.symm]
  exact BKX k λ i hi => h i (by omega)
theorem BKO {c : Cht} (h : ChOk c) {m : Nat} {j : Nat} (hm : (gD c.ns j).mi = m) : ∀ k, j < k -> k <= c.ns.length -> ntS c k m = (gD c.ns j).t
 | 0, h1, _ => absurd h1 (Nat.not_lt_zero _)
 | k + 1, h1, h2 => by
  show (bif decide (m = (gD c.ns k).mi.toNat) then _ else _) = _
  by_cases e : j = k
  ·subst e
   rw [decide_eq_true (by omega)]; rfl
  ·rw [decide_eq_false λ e2 => h.one j k (by omega) (by omega) (by have := (h.nt _ (HW (show k < c.ns.length by omega))).1; omega)]
   exact BKO h hm k (by omega) (by omega)
theorem BOM {c : Cht} (h : ChOk c) (m : Nat) : ntS c c.ns.length m = Xj c m := by
 unfold Xj
 cases hq : hasN c.ns m with
 | false =>
  refine BKX _ λ i hi e => ?_
  have hn := (h.nt _ (HW hi)).1
  have := Ty.2 ⟨gD c.ns i, HW hi, show (gD c.ns i).mi = (m : Int) by omega⟩
  rw [hq] at this; cases this
 | true =>
  obtain ⟨q1, q2⟩ := cL hq
  obtain ⟨j, hj, e⟩ := OV q1
  show _ = (ntOf c.ns m).t
  rw [BKO h (j := j) (by rw [e]; exact q2) _ hj (Nat.le_refl _), e]
theorem BWV (c : Cht) (h0 : AI c = 0) : BIY c := by
 have hc := MA.1 h0
 obtain ⟨m1, m2⟩ := hc.m
 have hn := hc.n
 rw [BOI]<;> delta JH Hi BI BF EN MM ON EB EA BY EL AF CN CO AS KA BE XB EU EC JL FY MN NT LS ET GW FK HV IB HK GV FU HC DV FW EY HA FL LC EP RX KG GZ Ai cQ TE Yb Ho Sk Up AD CI AU AG AZ AX AE BM GQ Sb AW BL BD AO AR DD BA BK BO BJ CX HI BW BV AJ AQ AV FC CK AN AL GH HG FX FQ AM HE DK ID DR CM BX CG DO OX BC HS DX JR HH CE LA OJ CS HQ DZ KF AT JB ED HR HO BR EO HD PF LG IH SX MU UD JM RV SY DJ Sf QV VQ HF MQ MX EI LV LM WR DI HZ IR BZ JX KT OQ IQ GG YF GM TK Lu VY EG FV FG KV DG Ch UO RD KX KS KR RI FF JF GP TP MI SJ QI OF ZO WT eC WB RS Np Gd NQ Je Ec Pw Lo UP Zs Ip VB Ee VA VL Jb WM VE XL TH Dj ZK ZB Dh ZH WL Kh; simp only [CC, eq_self, implies_true, forall_const]
 refine ⟨⟨⟨default, trivial⟩, ⟨λ h => ⟨⟨by omega, by omega, by omega, by omega, by omega⟩, 1, ⟨rfl, rfl, rfl⟩, ⟨by omega, by omega⟩, by omega⟩, λ h => by omega⟩, λ k ⟨k1, k2⟩ => ⟨λ hlt => ⟨⟨by omega, by omega, by omega, by omega⟩, k + 1, ⟨rfl, (HL (by omega)).symm, rfl, λ i hi => ?_⟩, ⟨by omega, by omega⟩, by omega⟩, λ hge => ⟨default, by omega⟩⟩⟩, ⟨0, ⟨rfl, λ i hi => ⟨rfl, rfl⟩⟩, Nat.zero_le _⟩, λ k hk => ⟨λ hlt => ?_, λ hge => ?_⟩⟩
 ·cases decide (i < k) <;> exact ⟨rfl, rfl⟩
 ·have hlt : k < c.ns.length := by omega
  have hi := (hc.nt _ (HW hlt)).1
  refine ⟨⟨by omega, by omega, by omega, by omega⟩, k + 1, ⟨(HL (by omega)).symm, λ i _ => ?_⟩, by omega, by omega⟩
  show (bif decide (i = (gD c.ns k).mi.toNat) then _ else _ : Span).lo = _ /\ (bif decide (i = (gD c.ns k).mi.toNat) then _ else _ : Span).hi = _
  cases decide (i = (gD c.ns k).mi.toNat) <;> exact ⟨rfl, rfl⟩
 ·obtain rfl : k = c.ns.length := by omega
  refine ⟨YU c, by omega, λ j hj => ?_⟩
  rw [wP (by rw [YU] at hj; exact hj), BOM hc]; exact ⟨rfl, rfl⟩
theorem BOW : AK Try.prog AFH (C_zNot.spec aM) := VV C_zNot BGA [] [202] BBI (λ _ => by kernel_rfl) (λ _ => AC) (λ c h => BWV c h) (λ _ => WY rfl rfl) _
end Go.Bal
