/- Package chart, with the reference: Stages, lists of stops, gaps, notes. -/
import Derived.Test.YtdbjalgfomknhaaGreatChZa
import Derived.Test.YtdbjalgfomknhaaGreatChT6
set_option linter.unusedVariables false
set_option linter.unusedSimpArgs false
namespace Go.Bal
open Go Go.Sym Go.Proofs
def zg6n (c : Cht) : Shape := { α := One, dflt := default, T := λ _ => ⟨[(1, .bptr 201 0), (5, .d Jn), (6, .int 0)], [(201, .live (sJ c))]⟩, inv := λ _ => AM c = 0, meas := λ _ => 50, first := [(201, 1000)] }
def zg6o (c : Cht) : Shape := { α := Nat, dflt := 0, T := λ k => ⟨[(1, .bptr 201 0), (5, .own 202 2 0 k), (6, .int k)], [(201, .live (sJ c)), (202, .live (.row 2 k λ i => IL (Dv c (i : Int))))]⟩, inv := λ k => (AM c = 0 /\ 1 <= k /\ k <= c.ms.length) /\ ∀ i : Nat, i < k -> Du (Dv c i) = true, meas := λ k => 40 - k, again := [(202, 12048)] }
def AHT (c : Cht) : Ann := { ann 33 [(dA, C_Check.spec kM), (pW, C_zst.spec dCtI)] with mt := λ id => id == 11, loops := λ id => if id = 6 then some [zg6n c, zg6o c] else none }
def AIK (c : Cht) : Prop := CH Try.prog (AHT c) F5 (AH F5) (C_Stages.xs c) (AB []) (.tup [.d (DE (SR c).1), .int (SR c).2]) [] [] [202]
abbrev AFK:=@Prod.fst (List Span) Int
abbrev AIC:=@Prod.snd (List Span) Int
abbrev Tg a:=AIC (SR a)
abbrev WL a:=AFK (SR a)
abbrev Aj a b c:=AU a b (CK c)
abbrev At a b c d e (f:Nat->Prop):=Ir a b (BX b) c d (λ i=>BK i b) e f
attribute [go_sem] AFK AIC Tg WL Aj At
theorem AQT (c : Cht) : (AIK c) = (SK (ZP c c (UE c (BO c) c c (Ch c) (HM c))) (WV c) (Ru (WL c) (Tg c) (WV c)) (IG (Rm (λ i=>JR AI FW BQ (GR c) (KP c))) (Fx (λ i=>GM (KP c) (JH 0 (IV c)) (AO (AQ c) (AT c) (AP c) (QJ c (BO c) (BL c) (BE c) (BI c) (Np 0) (Dg (DQ c)) (Sx c))) (EK (JM (BG (Yd c)) (BJ (Yd c))) (Ru (WL c) (Tg c) 6) (And (Dl YW XL YE 16) (GN (λ j=>IW (YV (JD j) (EO j Kg) (AQ c) (AT c) (At (AP c) c (JS c) (CG c) (JD j) (λ k=>BH k j (BN (Gz c k) (Yd c)) (AX (Gz c k) (Yd c))))) (HS (AE (KP c) (PH j) (Nw j c)) (λ k=>Aj k j (Du (Gz c k)))) 40 j 50)))) (cE (WL c) (IQ (Tg c))))) (λ i=>GC (HS (AE (KP c) (PH i) (Nw i c)) (λ j=>Aj j i (Du (Gz c j)))) i (IV c) (AO (AQ c) (AT c) (AP c) (QJ c (BO c) (BL c) (BE c) (BI c) (IM i) (FR i (DQ c)) (Sx c))) (EK (JM (Ai (DK c) i) (Bt (DK c) i)) (Ru (WL c) (Tg c) 6) (And (Dl (Cb i i) TI (TX i) (Bq i)) (GN (λ j=>EB (YV (PL j i) (BD j i) (AQ c) (AT c) (At (AP c) c (JS c) (CG c) (PL j i) (λ k=>VK k j (Gz c k) (JP k i (Ai c k) (Ai (DK c) i)) (JP k i (Bt c k) (Bt (DK c) i))))) (HS (AE (KP c) (PH j) (Nw j c)) (λ k=>Aj k j (Du (Gz c k)))) 40 j i)))) (AO (JU (WL c) i) (LC i) (AD (λ j=>EY j (WL c) (Gz c (BV j)))) (IQ (Tg c)))))) := by kernel_rfl
theorem ASB {c : Cht} (h : AM c ≠ 0) : SR c = ([], AM c) := by
 unfold SR; rw [show (AM c == 0) = false by simpa using h]; rfl
theorem gN {c : Cht} (h : AM c = 0) : SR c = bif ZV c then (Eg c, 0) else ([], 6) := by
 unfold SR; rw [h]; rfl
theorem APS {c : Cht} (h : AM c = 0) {i : Nat} (hi : i < c.ms.length) (hl : (Dv c i).lo > (Dv c i).hi) : SR c = ([], 6) := by
 rw [gN h]
 cases hq : ZV c with
 | false => rfl
 | true =>
  have := Zu.1 hq i (by rw [show (Eg c).length = c.ms.length from rng_length _ _]; exact hi)
  rw [AAV hi] at this; omega
theorem AYO (c : Cht) (h : c.ms.length < 4611686018427387904 /\ c.ns.length < 4611686018427387904) : AIK c := by
 rw [AQT]<;> delta KH ZR BG BJ EC MM NO ES ET BW ED AD BU CL AR GK BZ SC DJ EK JH HO KB NL LO EJ GW EX HP HN HJ GT GB HC DU GG FE JW GN IH JL JM PW QC NJ YM Rm Fx En jV AFK AIC AE CR FA BB GA AF AY AU AG EM EZ BC FD Nc QF AX FC BM CJ AK AN DD BH HX BY BP CX HZ BN CY BS CE HQ FU AV DA AQ EV DW AZ LX DQ CP FT AS FS DM AP ID AT BV EG CN BX NE CM HD CG GP GU DS DF FH HV AO AI CK DT EL FV DK CD EP HW EO JY IV DB FN FM KM HF JB DZ ML BD PH EA FQ FR IW BE LI DX FO FZ JS GH JU BQ IC VT LB IM EW IQ HS HB BO EB BK CS EE LV GM GF KP BI BL Gz EY RM FW HM GC NB GR YU MG PM HG QK JP Es LC SN JZ MD SU JD IG RE WL Lx PL JR ZM Gk Sv QJ WV Av Aj Hd Lj Dg TI Ai TX Ir cE Bt XL YE Ch Fc Qb VK SK YW XQ Cb Nw Tg Bq ZP C5 Dl Kg YV At Ru UE Sx Yd Np; simp only [CC, eq_self, implies_true, forall_const, CU]
 refine ⟨h, λ h1 => ?_, λ h1 => ?_⟩
 ·rw [ASB (by simpa using h1)]; exact ⟨rfl, rfl, rfl⟩
 have h0 : AM c = 0 := by simpa using h1
 obtain ⟨_, ⟨n1, n2⟩, n3⟩ := IX h0
 refine ⟨⟨default, h0⟩, λ _ => ⟨λ hlt => ⟨⟨rfl, by omega, h0⟩, λ hg => ?_, λ hg => ⟨⟨by omega, by omega, by omega, by omega, by omega⟩, 1, ⟨rfl, rfl, rfl, λ i hi => ?_⟩, ⟨⟨h0, by omega, by omega⟩, λ i hi => ?_⟩, by omega⟩⟩, λ hge => absurd hge (by omega)⟩, λ k ⟨⟨_, k1, k2⟩, k3⟩ => ⟨λ hlt => ⟨⟨by omega, h0⟩, λ hg => ?_, λ hg => ⟨⟨by omega, by omega, by omega, by omega⟩, k + 1, ⟨rfl, (HY (by omega)).symm, rfl, λ i hi => ?_⟩, ⟨⟨h0, by omega, by omega⟩, λ i hi => ?_⟩, by omega⟩⟩, λ hge => ?_⟩⟩
 ·rw [APS (i := 0) h0 (by omega) hg]; exact ⟨rfl, rfl, rfl⟩
 ·obtain rfl : i = 0 := by omega
  exact ⟨rfl, rfl⟩
 ·obtain rfl : i = 0 := by omega
  unfold Du; exact decide_eq_true (by show (Dv c 0).lo <= (Dv c 0).hi; omega)
 ·rw [APS h0 (by omega) hg]; exact ⟨rfl, rfl, rfl⟩
 ·by_cases h : i < k
  ·simp [h]
  ·obtain rfl : i = k := by omega
   simp
 ·by_cases h : i < k
  ·exact k3 i h
  ·obtain rfl : i = k := by omega
   unfold Du; exact decide_eq_true (by omega)
 ·obtain rfl : k = c.ms.length := by omega
  have hq : ZV c = true := Zu.2 λ i hi => by
   have hi : i < c.ms.length := by rw [show (Eg c).length = c.ms.length from rng_length _ _] at hi; exact hi
   rw [AAV hi]
   have := k3 i hi
   unfold Du at this; exact of_decide_eq_true this
  rw [gN h0, hq]
  refine ⟨rng_length _ _, by omega, λ j hj => ?_, rfl⟩
  have hj : j < c.ms.length := by simpa [Eg] using hj
  show (gD (Eg c) j).lo = _ /\ (gD (Eg c) j).hi = _
  rw [AAV hj]; exact ⟨rfl, rfl⟩
theorem ADM : AJ Try.prog oZ (C_Stages.spec kM) := XP C_Stages AHT [] [202] ASO (λ _ => by kernel_rfl) (λ _ => AA rA (AA BAP AC)) AYO (λ _ => YS rfl rfl) _
def wH (z : List Int) : Nat -> Int
 | 0 => -1
 | k + 1 => gD z k
def zu2 (a : CZ) : Shape := { α := Nat, dflt := 0, T := λ k => ⟨[(1, .d (DV a.z)), (2, .bptr 201 0), (5, .int k)], [(201, .live (sJ a.c))]⟩, inv := λ k => k <= a.z.length /\ (-1 <= wH a.z k /\ wH a.z k <= 40) /\ Gc a.c.ms.length (wH a.z k) (a.z.drop k) = rX a, meas := λ k => a.z.length - k, first := [(201, 1000)] }
def C_zUnl : Ctr := { α := CZ, xs := xCZ, val := λ a => .bool (!rX a), keep := λ _ => [], pre := λ a => [a.z.length < 4611686018427387904 /\ AM a.c = 0] }
def BID (a : CZ) : Ann := { ann 37 [(tM, L6)] with loops := λ id => if id = 2 then some [zu2 a] else none }
def BFY (a : CZ) : Prop := CH Try.prog (BID a) ASW (AH ASW) (xCZ a) (AB []) (C_zUnl.val a) [] [] []
abbrev Ye a b:=wH (LY a) b
abbrev mY a:=IV (DO a)
abbrev Kd a b c:=Ki a (LY b) (SX b c)
abbrev iZ a:=PG (LY a)
attribute [go_sem] Ye mY Kd iZ
theorem BLQ (a : CZ) : (BFY a) = (DP (λ i=>AO (AO (iZ a) (AD (λ j=>Kd j a j)) (BR i) (VT (OC a) (OJ a) (DO a) (DO a) (DO a) (BX (DO a)) (λ j=>DX j (DO a)) (CG (DO a)) (λ j=>BK j (DO a)))) (RL i (LY a)) (And (HO (-1) (Ye a i)) (Wd (Ye a i))) (KH (Gc (mY a) (Ye a i) (jZ i (LY a))) (rX a))) (λ i=>GC (AE (RL i (LY a)) (And (HO (-1) (Ye a i)) (Wd (Ye a i))) (KH (Gc (mY a) (Ye a i) (jZ i (LY a))) (rX a))) i (LP (LY a)) (AE (MW i (LY a)) (HF (and (not (WH (SX a i) (GI (mY a) 2))) (Bp i)) (MW i (LY a))) (NU (and (not (WH (SX a i) (GI (mY a) 2))) (Bp i)) (ME i) (FP (LY a)))) (EK (IF (WH (SX a i) (GI (mY a) 2)) (ER (Bp i) (hd7 (SX a i) (SX a (Ik i))))) (CK (not (rX a))) (GN (λ j=>EB (AO (iZ a) (AD (λ k=>Kd k a k)) (BD j i) (VT (OC a) (OJ a) (DO a) (DO a) (DO a) (BX (DO a)) (λ k=>DX k (DO a)) (CG (DO a)) (λ k=>BK k (DO a)))) (AE (RL j (LY a)) (And (HO (-1) (Ye a j)) (Wd (Ye a j))) (KH (Gc (mY a) (Ye a j) (jZ j (LY a))) (rX a))) (FP (LY a)) j i))) (EF (not (rX a))))) := by kernel_rfl
theorem ADG {z : List Int} {m : Int} {k : Nat} (hk : k < 4611686018427387904) (hp : -1 <= wH z k /\ wH z k <= 40) {v : Bool} (h : (bif !KT (gD z k) 0 (IntKind.i64.wrap (m - 2)) then true else bif decide ((k : Int) > 0) then decide (gD z k <= gD z (IntKind.i64.wrap ((k : Int) - 1)).toNat) else false) = v) : KT (gD z k) (wr (wH z k + 1)) (wr (m - 2)) = !v := by
 have e1 : wr (wH z k + 1) = wH z k + 1 := Bc (by omega) (by omega)
 have e2 : (bif decide ((k : Int) > 0) then decide (gD z k <= gD z (IntKind.i64.wrap ((k : Int) - 1)).toNat) else false) = (decide ((k : Int) > 0) && decide (gD z k <= wH z k)) := by
  rcases k with _ | k
  ·rfl
  ·rw [show IntKind.i64.wrap (((k + 1 : Nat) : Int) - 1) = (k : Int) from by rw [Bc (by omega) (by omega)]; omega]
   rw [decide_eq_true (show ((k + 1 : Nat) : Int) > 0 by omega)]; rfl
 have e3 : (k : Int) > 0 ∨ wH z k = -1 := by
  rcases k with _ | k
  ·exact .inr rfl
  ·exact .inl (by omega)
 rw [e1, <- h, e2]
 show KT (gD z k) (wH z k + 1) (IntKind.i64.wrap (m - 2)) = _
 generalize IntKind.i64.wrap (m - 2) = w
 unfold KT
 generalize wH z k = p at hp e3
 generalize gD z k = g
 by_cases h1 : p + 1 <= g <;> by_cases h2 : g <= w <;> by_cases h3 : 0 <= g <;> by_cases h4 : (k : Int) > 0 <;> by_cases h5 : g <= p <;> simp [h1, h2, h3, h4, h5] <;> omega
theorem BSR (a : CZ) (h : a.z.length < 4611686018427387904 /\ AM a.c = 0) : BFY a := by
 obtain ⟨hz, h0⟩ := h
 obtain ⟨_, ⟨n1, n2⟩, n3⟩ := IX h0
 rw [BLQ]<;> delta KH wN hd7 ZR BG BJ EC MM NO Hc ES ET BW AD BU CL AR BZ DJ EK JH HO KB NL LO EJ GW EX HP HN HJ GT GB HC DU GG FE GN FP FK JL JM FY jZ DO LY AE CR BB AF AY AU SX AG BC AX BM CJ AK AN DD BH BY XN CX CY BS CE HQ AV EV DW AZ CP AS FS DM AP CN BX GI CM HD CG IY GP GU DS FH AO CK CD EO IV KM HF PV JB DZ BD PG FR IW DX LP Ki VT LB HS HB EB BK ME EF GM IF BR OJ GC DP OC ER Cr XX MW RL NU iZ WH Kd Ik Bp Ye mY Wd; simp only [CC, eq_self, implies_true, forall_const]
 refine ⟨⟨0, rfl, Nat.zero_le _, ⟨by show (-1 : Int) <= -1; omega, by show (-1 : Int) <= 40; omega⟩, rfl⟩, λ k ⟨k1, k2, k3⟩ => ⟨λ hlt => ?_, λ hge => ?_⟩⟩
 ·have hlt : k < a.z.length := by omega
  rw [AAL hlt] at k3
  refine ⟨⟨by omega, λ _ => by omega, λ h => ?_⟩, λ h4 => ?_, λ h4 => ⟨k + 1, (HY (by omega)).symm, ⟨by omega, ?_, ?_⟩, by omega⟩⟩
  ·have := (Bool.and_eq_true .. ▸ h).2
   have := of_decide_eq_true this
   rw [Bc (by omega) (by omega)]; omega
  ·rw [<- k3]; unfold Gc; rw [ADG (by omega) k2 h4]; rfl
  ·have := ADG (by omega) k2 h4
   have := GX.1 this
   have e1 : wr (wH a.z k + 1) = wH a.z k + 1 := Bc (by omega) (by omega)
   have e2 : wr ((a.c.ms.length : Int) - 2) = (a.c.ms.length : Int) - 2 := Bc (by omega) (by omega)
   show -1 <= gD a.z k /\ gD a.z k <= 40
   omega
  ·rw [<- k3]; conv => rhs; unfold Gc
   rw [ADG (by omega) k2 h4]; rfl
 ·rw [<- k3, List.drop_of_length_le (by omega)]; rfl
theorem AWS : AJ Try.prog AJE (C_zUnl.spec pZ) := XP C_zUnl BID [] [] BME (λ _ => by kernel_rfl) (λ _ => AA AAG AC) (λ a h => BSR a h) (λ _ => YS rfl rfl) _
structure ZG where
 z : List Int
 g : Int
def dZG : List AVal -> Heap -> Option (ZG × List (Nat × Nat) × List Nat)
 | [y, .d k], H => match fM y H with
  | some (l, e) => some (⟨l, HK k⟩, [], e)
  | none => none
 | _, _ => none
def xZG (a : ZG) : List AVal := [.d (DV a.z), .int a.g]
def K8 (z : List Int) (g : Int) : Bool := z.any λ x => x == g
def zd2 (a : ZG) : Shape := { α := Nat, dflt := 0, T := λ k => ⟨[(0, .d (DV a.z)), (1, .int a.g), (5, .int k)], []⟩, inv := λ k => k <= a.z.length /\ ∀ i, i < k -> gD a.z i ≠ a.g, meas := λ k => a.z.length - k }
def C_zSta : Ctr := { α := ZG, xs := xZG, val := λ a => .bool (K8 a.z a.g), keep := λ _ => [], pre := λ a => [a.z.length < 4611686018427387904] }
def BDG (a : ZG) : Ann := { ann 18 [] with loops := λ id => if id = 2 then some [zd2 a] else none }
def BHB (a : ZG) : Prop := CH Try.prog (BDG a) R0 (AH R0) (xZG a) (AB []) (C_zSta.val a) [] [] []
abbrev Nj:=ZG.z
attribute [go_sem] Nj
theorem BJO (a : ZG) : (BHB a) = (DP (λ i=>IG (AO (PG (Nj a)) (MK (Nj a)) (AG (ZG.g a)) (BR i)) (RL i (Nj a)) (λ j=>AU j i (Jf (FK (Nj a) j) (ZG.g a)))) (λ i=>GC (HS (RL i (Nj a)) (λ j=>AU j i (Jf (FK (Nj a) j) (ZG.g a)))) i (LP (Nj a)) (MW i (Nj a)) (EK (Dx (FK (Nj a) i) (ZG.g a)) (CK (K8 (Nj a) (ZG.g a))) (GN (λ j=>EB (AO (PG (Nj a)) (MK (Nj a)) (AG (ZG.g a)) (BD j i)) (HS (RL j (Nj a)) (λ k=>AU k j (Jf (FK (Nj a) k) (ZG.g a)))) (FP (Nj a)) j i))) (EF (K8 (Nj a) (ZG.g a))))) := by kernel_rfl
theorem xY {z : List Int} {g : Int} : K8 z g = true ↔ g ∈ z := by
 unfold K8; rw [List.any_eq_true]
 exact ⟨λ ⟨x, hx, e⟩ => (by simpa using e : x = g) ▸ hx, λ h => ⟨g, h, by simp⟩⟩
theorem BTB (a : ZG) (h : a.z.length < 4611686018427387904) : BHB a := by
 rw [BJO]<;> delta KH ZR MM NO BW AD BU CL AR BZ DJ EK JH HO KB NL LO GN FP FK Dx JL Jf Nj AE AU AG BC HQ FS DM CN IY GP GU DS FH AO CK CD EO JB DZ BD PG FR IW LP Ki LB HS HB EB WU EF GM BR MK GC DP IG MW RL; simp only [CC, eq_self, implies_true, forall_const]
 refine ⟨⟨0, rfl, Nat.zero_le _, λ i hi => absurd hi (Nat.not_lt_zero _)⟩, λ k ⟨k1, k2⟩ => ⟨λ hlt => ⟨by omega, λ h4 => ?_, λ h4 => ⟨k + 1, (HY (by omega)).symm, ⟨by omega, λ i hi => ?_⟩, by omega⟩⟩, λ hge => ?_⟩⟩
 ·exact xY.2 ((by simpa using h4 : gD a.z k = a.g) ▸ TY (by omega))
 ·by_cases e : i = k
  ·subst e; simpa using h4
  ·exact k2 i (by omega)
 ·cases hq : K8 a.z a.g with
  | false => rfl
  | true =>
   obtain ⟨i, hi, e⟩ := YH (xY.1 hq)
   exact absurd e (k2 i (by omega))
theorem BJZ : AJ Try.prog qP (C_zSta.spec dZG) := XP C_zSta BDG [] [] ARB (λ _ => by kernel_rfl) (λ _ => AC) (λ a h => BTB a h) (λ _ => YS rfl rfl) _
def C_zLea : Ctr := { α := CtI, xs := λ a => [.d (Dj a.c), .int a.k], val := λ a => .int (a.c.p.lo * WC a.c a.k.toNat), keep := λ _ => [], pre := λ a => [(0 <= a.k /\ a.k + 1 < a.c.ms.length) /\ AM a.c = 0] }
def BFC (a : CtI) : Prop := CH Try.prog (ann 23 []) ADT (AH ADT) (C_zLea.xs a) (AB []) (C_zLea.val a) [] [] []
abbrev Tk a b c:=Ri a (WC b c)
attribute [go_sem] Tk
theorem BKR (a : CtI) : (BFC a) = (And (YT (GU (Gd a)) (LJ a) (Gd a)) (AR (Tk (Dd (LJ a)) (LJ a) (FY (Gd a))) (Yo (Dd (LJ a)) (LJ a) (FY (GU (Gd a))) (FY (Gd a))))) := by kernel_rfl
theorem BEA {c : Cht} (h0 : AM c = 0) {k : Int} (hk : 0 <= k /\ k + 1 < c.ms.length) : IntKind.i64.wrap (k + 1) = k + 1 /\ IntKind.i64.wrap (c.p.lo * IntKind.i64.wrap ((gD c.ms (k + 1).toNat).pl - (gD c.ms k.toNat).pl)) = c.p.lo * WC c k.toNat /\ IntKind.i64.wrap (c.p.hi * IntKind.i64.wrap ((gD c.ms (k + 1).toNat).pl - (gD c.ms k.toNat).pl)) = c.p.hi * WC c k.toNat := by
 have h := QR.1 h0
 obtain ⟨m1, m2⟩ := h.m
 have hf := h.far (g := k.toNat) (by omega)
 have hg := h.gap (λ _ => false) (g := k.toNat) (by omega)
 have e : (k + 1).toNat = k.toNat + 1 := by omega
 rw [e]
 have e2 : IntKind.i64.wrap ((gD c.ms (k.toNat + 1)).pl - (gD c.ms k.toNat).pl) = WC c k.toNat := Bc (by unfold WC at hf; omega) (by unfold WC at hf; omega)
 rw [e2]
 exact ⟨Bc (by omega) (by omega), Bc (by omega) (by omega), Bc (by omega) (by omega)⟩
theorem ATY : AJ Try.prog zK (C_zLea.spec dCtI) := XP C_zLea (λ _ => ann 23 []) [] [] AXU (λ _ => by kernel_rfl) (λ _ => AC) (λ (a : CtI) h => by
 obtain ⟨hk, h0⟩ : (0 <= a.k /\ a.k + 1 < a.c.ms.length) /\ AM a.c = 0 := h
 obtain ⟨e1, e2, _⟩ := BEA h0 hk
 show BFC a; rw [BKR]<;> delta BG MM NO Hc AR BZ HO KB NL EJ GW EX GT GB FY Ri Gd LJ AE BB DD CE HQ FS DM CN GI GP GU FH CD dL UZ PR Dd aI XI Yo YT Tk; rw [e1, e2]
 exact ⟨⟨⟨by omega, by omega⟩, by omega, by omega⟩, rfl⟩) (λ _ => YS rfl rfl) _
structure CZG where
 a : CZ
 g : Int
def dCZG : List AVal -> Heap -> Option (CZG × List (Nat × Nat) × List Nat)
 | [x, y, .d k], H => match nM x H, fM y H with
  | some (c, f), some (l, e) => some (⟨⟨c, l⟩, HK k⟩, [], f ++ e)
  | _, _ => none
 | _, _ => none
def Ke (a : CZ) (g : Int) : Int := bif K8 a.z g then 300000000 else a.c.p.hi * WC a.c g.toNat
def C_zMos : Ctr := { α := CZG, xs := λ x => [.d (Dj x.a.c), .d (DV x.a.z), .int x.g], val := λ x => .int (Ke x.a x.g), keep := λ _ => [], pre := λ x => [(0 <= x.g /\ x.g + 1 < x.a.c.ms.length) /\ x.a.z.length < 4611686018427387904 /\ AM x.a.c = 0] }
def AZU (x : CZG) : Prop := CH Try.prog (ann 28 [(qP, C_zSta.spec dZG)]) AJD (AH AJD) (C_zMos.xs x) (AB []) (C_zMos.val x) [] [] []
abbrev kS:=CZG.a
abbrev tC:=CZG.g
abbrev sI:=Ke
abbrev vG a b:=PI (FP a) b
attribute [go_sem] kS tC sI vG
theorem BJK (x : CZG) : (AZU x) = (HG (AO (OY (kS x)) (AD (λ i=>PC i (kS x))) (AG (tC x)) (vG (PF (kS x)) 4611686018427387904)) (K8 (PF (kS x)) (tC x)) (AR (sI (kS x) (tC x)) 300000000) (And (YT (GU (tC x)) (DO (kS x)) (tC x)) (AR (sI (kS x) (tC x)) (Yo (BJ (XN (kS x))) (DO (kS x)) (FY (GU (tC x))) (FY (tC x)))))) := by kernel_rfl
theorem AWN : AJ Try.prog AAZ (C_zMos.spec dCZG) := XP C_zMos (λ _ => ann 28 [(qP, C_zSta.spec dZG)]) [] [] BCJ (λ _ => by kernel_rfl) (λ _ => AA BJZ AC) (λ (x : CZG) h => by
 obtain ⟨hk, hz, h0⟩ : (0 <= x.g /\ x.g + 1 < x.a.c.ms.length) /\ x.a.z.length < 4611686018427387904 /\ AM x.a.c = 0 := h
 obtain ⟨e1, _, e2⟩ := BEA h0 hk
 show AZU x; rw [BJK]<;> delta BJ MM NO Hc BW AD BU CL AR BZ EK HO KB NL EJ GW EX GT GB FP FK VV FY KI DO LY Ri kS tC sI AE BB PX AU SX AG DD XN Bj CE HQ PF FS DM CN GI IY GP GU EN FH AO CD CB MB LL PI dL OB MY UZ HG PR MV OY PC aI XI Yo vG YT; simp only [CC, eq_self, implies_true, forall_const]; rw [e1, e2]
 refine ⟨hz, λ h => ?_, λ h => ⟨⟨⟨by omega, by omega⟩, by omega, by omega⟩, ?_⟩⟩
 ·unfold Ke; rw [h]; rfl
 ·unfold Ke; rw [h]; rfl) (λ _ => YS rfl rfl) _
def ntS (c : Cht) : Nat -> Nat -> Span
 | 0, _ => farS
 | k + 1, i => bif decide (i = (gD c.ns k).mi.toNat) then (gD c.ns k).t else ntS c k i
def zn3n (c : Cht) : Shape := { α := One, dflt := default, T := λ _ => ⟨[(1, .bptr 201 0), (3, .d Jn), (4, .int 0)], [(201, .live (sJ c))]⟩, inv := λ _ => True, meas := λ _ => 50, first := [(201, 1000)] }
def zn3o (c : Cht) : Shape := { α := Nat, dflt := 0, T := λ k => ⟨[(1, .bptr 201 0), (3, .own 202 2 0 k), (4, .int k)], [(201, .live (sJ c)), (202, .live (.row 2 k λ i => IL farS))]⟩, inv := λ k => 1 <= k /\ k <= c.ms.length, meas := λ k => 40 - k, again := [(202, 6048)] }
def zn6c (c : Cht) : Shape := { α := One, dflt := default, T := λ k => ⟨[(1, .bptr 201 0), (3, .own 202 2 0 c.ms.length)], [(201, .live (sJ c)), (202, .live (.row 2 c.ms.length λ i => IL farS))]⟩, inv := λ _ => True, meas := λ _ => 0 }
def zn7 (c : Cht) : Shape := { α := Nat, dflt := 0, T := λ k => ⟨[(1, .bptr 201 0), (3, .own 202 2 0 c.ms.length), (5, .int k)], [(201, .live (sJ c)), (202, .live (.row 2 c.ms.length λ i => IL (ntS c k i)))]⟩, inv := λ k => k <= c.ns.length, meas := λ k => c.ns.length - k }
def C_zNot : Ctr := { α := Cht, xs := λ c => [.d (Dj c)], val := λ c => .d (DE (XD c)), keep := λ _ => [], pre := λ c => [AM c = 0] }
def BER (c : Cht) : Ann := { ann 39 [] with mt := λ id => id == 5, loops := λ id => if id = 3 then some [zn3n c, zn3o c] else if id = 7 then some [zn7 c] else none, cut := λ id => if id = 6 then some [zn6c c] else none }
def BHQ (c : Cht) : Prop := CH Try.prog (BER c) AFN (AH AFN) (C_zNot.xs c) (AB []) (C_zNot.val c) [] [] [202]
theorem BLW (c : Cht) : (BHQ c) = (PO (IG (HI (AO AI FW BQ (GR c))) (Fx (λ i=>GM IH (JH 0 (IV c)) (Dl YW XL YE 16) (GN (λ j=>IW (YV (JD j) (EO j Kg) (AQ c) (AT c) (At (AP c) c (JS c) (CG c) (JD j) (λ k=>Le k j (Int.negSucc 99999999) (Ge 100000000)))) (NA j (BB c)) 40 j 50)) JV)) (λ i=>GC (NA i (BB c)) i (IV c) (Dl (Cb i i) TI (TX i) (Bq i)) (GN (λ j=>EB (YV (PL j i) (BD j i) (AQ c) (AT c) (At (AP c) c (JS c) (CG c) (PL j i) (λ k=>VK k j Wo (JP k i (BG Wo) (-100000000)) (JP k i (BJ Wo) 100000000)))) (NA j (BB c)) 40 j i)) (HI (AF AI (BW (BB c) i) (AQ c) (AT c) (At (AP c) c (JS c) (CG c) (BW (BB c) i) (λ j=>EV j c (AG (Int.negSucc 99999999)) (Ge 100000000))))))) (DP (λ i=>And (YV (BX c) (BR i) (AQ c) (AT c) (At (AP c) c (JS c) (CG c) (BX c) (λ j=>EV j c (BN (ntS c i j) Wo) (AX (ntS c i j) Wo)))) (Et i c)) (λ i=>GQ (Et i c) i (AN c) (xW (YZ i c) (CD (BS c i) (BB c)) (NW (BS c i) (BB c))) (GN (λ j=>EB (YV (BX c) (BD j i) (AQ c) (AT c) (At (AP c) c (JS c) (CG c) (BX c) (λ k=>EV k c (BP (ntS c j k) (JJ k (BS c i) (Aw c i) (BG (ntS c i k)))) (AY (ntS c j k) (JJ k (BS c i) (Dp c i) (BJ (ntS c i k))))))) (Et j c) (AN c) j i)) (IG (EA (ED (XD c)) c) (LC (BB c)) (λ j=>EY j (XD c) (ntS c i (BV j))))))) := by kernel_rfl
theorem AZM {c : Cht} {m : Nat} : ∀ k, (∀ i, i < k -> (gD c.ns i).mi.toNat ≠ m) -> ntS c k m = farS
 | 0, _ => rfl
 | k + 1, h => by
  show (bif decide (m = (gD c.ns k).mi.toNat) then _ else _) = _
  rw [decide_eq_false λ e => h k (Nat.lt_succ_self _) e.symm]
  exact AZM k λ i hi => h i (by omega)
theorem BBJ {c : Cht} (h : ChOk c) {m : Nat} {j : Nat} (hm : (gD c.ns j).mi = m) : ∀ k, j < k -> k <= c.ns.length -> ntS c k m = (gD c.ns j).t
 | 0, h1, _ => absurd h1 (Nat.not_lt_zero _)
 | k + 1, h1, h2 => by
  show (bif decide (m = (gD c.ns k).mi.toNat) then _ else _) = _
  by_cases e : j = k
  ·subst e
   rw [decide_eq_true (by omega)]; rfl
  ·rw [decide_eq_false λ e2 => h.one j k (by omega) (by omega) (by have := (h.nt _ (TY (show k < c.ns.length by omega))).1; omega)]
   exact BBJ h hm k (by omega) (by omega)
theorem BJE {c : Cht} (h : ChOk c) (m : Nat) : ntS c c.ns.length m = S8 c m := by
 unfold S8
 cases hq : hasN c.ns m with
 | false =>
  refine AZM _ λ i hi e => ?_
  have hn := (h.nt _ (TY hi)).1
  have := xF.2 ⟨gD c.ns i, TY hi, show (gD c.ns i).mi = (m : Int) by omega⟩
  rw [hq] at this; cases this
 | true =>
  obtain ⟨q1, q2⟩ := fC hq
  obtain ⟨j, hj, e⟩ := YH q1
  show _ = (ntOf c.ns m).t
  rw [BBJ h (j := j) (by rw [e]; exact q2) _ hj (Nat.le_refl _), e]
theorem BTY (c : Cht) (h0 : AM c = 0) : BHQ c := by
 have hc := QR.1 h0
 obtain ⟨m1, m2⟩ := hc.m
 have hn := hc.n
 rw [BLW]<;> delta KH ZR BG BJ EC MM NO ES ET BW ED AD BU CL AR GK BZ SC DJ EK JH HO KB NL LO EJ GW EX HP HN HJ GT GB HC DU GG FE GN IH JL FY QC JV KI YM Wj Rm Fx En jV Wo AE CR BB AF AY AU AG BC FD Nc AX BM CJ AK AN DD BH BY BP CX BN CY BS CE HQ AV AQ EV DW AZ CP AS FS DM AP AT BV CN BX NE CM HD CG GP GU DS DF FH AO AI CK UU CD xW EO JY IV KM HF JB DZ ML BD PH EA FR Ge IW LI DX JS BQ VT LB Ca PI EW HS HB EB BK LV GM GF BR EY RM FW GC NB DP GR YU QQ MG PM HI QK JP Es Lw LC JJ Jp SN NA NW SU JD IG RE GQ PL ZI ZM Gk Sv PO Av Hd TI TX Ir XL YE Et Aw Qb VK YW YZ Dp Cb Bq Dl Kg YV At Le; simp only [CC, eq_self, implies_true, forall_const]
 refine ⟨⟨⟨default, trivial⟩, ⟨λ h => ⟨⟨by omega, by omega, by omega, by omega, by omega⟩, 1, ⟨rfl, rfl, rfl⟩, ⟨by omega, by omega⟩, by omega⟩, λ h => by omega⟩, λ k ⟨k1, k2⟩ => ⟨λ hlt => ⟨⟨by omega, by omega, by omega, by omega⟩, k + 1, ⟨rfl, (HY (by omega)).symm, rfl, λ i hi => ?_⟩, ⟨by omega, by omega⟩, by omega⟩, λ hge => ⟨default, by omega⟩⟩⟩, ⟨0, ⟨rfl, λ i hi => ⟨rfl, rfl⟩⟩, Nat.zero_le _⟩, λ k hk => ⟨λ hlt => ?_, λ hge => ?_⟩⟩
 ·cases decide (i < k) <;> exact ⟨rfl, rfl⟩
 ·have hlt : k < c.ns.length := by omega
  have hi := (hc.nt _ (TY hlt)).1
  refine ⟨⟨by omega, by omega, by omega, by omega⟩, k + 1, ⟨(HY (by omega)).symm, λ i _ => ?_⟩, by omega, by omega⟩
  show (bif decide (i = (gD c.ns k).mi.toNat) then _ else _ : Span).lo = _ /\ (bif decide (i = (gD c.ns k).mi.toNat) then _ else _ : Span).hi = _
  cases decide (i = (gD c.ns k).mi.toNat) <;> exact ⟨rfl, rfl⟩
 ·obtain rfl : k = c.ns.length := by omega
  refine ⟨IS c, by omega, λ j hj => ?_⟩
  rw [Zr (by rw [IS] at hj; exact hj), BJE hc]; exact ⟨rfl, rfl⟩
theorem BKL : AJ Try.prog ACB (C_zNot.spec kM) := XP C_zNot BER [] [202] AYG (λ _ => by kernel_rfl) (λ _ => AC) (λ c h => BTY c h) (λ _ => YS rfl rfl) _
end Go.Bal
