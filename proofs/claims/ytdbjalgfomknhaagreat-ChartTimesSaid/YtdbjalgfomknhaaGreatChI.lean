/- Package chart: stages at a time, from a time to another one, and when one is reached. -/
import Derived.Test.YtdbjalgfomknhaaGreatChH
set_option linter.unusedVariables false
set_option linter.unusedSimpArgs false
namespace Go.Bal
open Go Go.Sym Go.Proofs
def zHul : Hul := ⟨⟨0, 0⟩, false⟩
structure CZI where
 a : CZ
 t : Int
def dCZI : List AVal -> Heap -> Option (CZI × List (Nat × Nat) × List Nat)
 | [x, y, .d t], H => match nM x H, fM y H with
  | some (c, f), some (l, e) => some (⟨⟨c, l⟩, HK t⟩, [], f ++ e)
  | _, _ => none
 | _, _ => none
def xCZI (x : CZI) : List AVal := [.d (Dj x.a.c), .d (DV x.a.z), .int x.t]
def Uy (a : CZ) : List Span := (GD (CV a)).1
theorem ANB (h : Hul) : Hul.mk h.s h.m = h := rfl
theorem BHD (a : CZ) : (GD (CV a)).1 = Uy a := rfl
theorem yH {a : CZ} (h : CF a = 0) : (Uy a).length = a.c.ms.length := by
 have h3 := (Qs h).2.2
 unfold Uy
 unfold GD at h3 ⊢
 rw [Ev] at h3 ⊢
 cases hs : ZV a.c with
 | false => rw [hs] at h3; cases h3
 | true => show (OH _ _).length = _; unfold OH; rw [rng_length, IS]
theorem mV (c : Cht) : (Eg c).length = c.ms.length := rng_length _ _
def hul1 (a : CZ) (t : Int) : Nat -> Hul
 | 0 => zHul
 | k + 1 => bif KT t (gD (Uy a) k).lo (gD (Uy a) k).hi then cN (hul1 a t k) (gD (Eg a.c) k) else hul1 a t k
def AGW (a : CZ) (t : Int) (g : Nat) : Bool := (OH (CV a) (parL (Uy a) ((g : Int) + 1) (wr (t - 1)) (wr (t + 1)))).all Du
def hul2 (a : CZ) (t : Int) : Nat -> Hul
 | 0 => hul1 a t a.c.ms.length
 | g + 1 => bif AGW a t g then cN (cN (hul2 a t g) (gD (Eg a.c) g)) (gD (Eg a.c) (g + 1)) else hul2 a t g
def uL (x : CZI) : Hul := bif KT x.t (-100000000) 100000000 then hul2 x.a x.t (x.a.c.ms.length - 1) else hul1 x.a x.t x.a.c.ms.length
def kR (x : CZI) : Span × Int := bif CF x.a == 0 then yR (uL x) else (⟨0, 0⟩, CF x.a)
def C_Stage : Ctr := { α := CZI, xs := xCZI, val := λ x => .tup [.d (IL (kR x).1), .int (kR x).2], keep := λ _ => [], pre := λ x => [x.a.c.ms.length < 4611686018427387904 /\ x.a.c.ns.length < 4611686018427387904 /\ x.a.z.length < 4611686018427387904] }
def sgH (x : CZI) (h : Hul) : List (Nat × HCell) := [(201, .live (.box [.int x.t])), (202, .live (.box [.int 0, .int 0])), (203, .live (.box [.bptr 208 0])), (204, .live (.box [.d (DE (Uy x.a))])), (205, .live (.box [.d (DE (Eg x.a.c))])), (206, .live (hlB h)), (207, .live (.box [.fn (.func U4) [.bptr 206 0] []])), (208, .live (dkB (CV x.a) 209)), (209, .live (dkM (CV x.a)))]
def sg7 (x : CZI) : Shape := { α := Nat, dflt := 0, T := λ k => ⟨[(5, .bptr 201 0), (6, .bptr 202 0), (8, .bptr 203 0), (9, .bptr 204 0), (10, .bptr 205 0), (12, .bptr 206 0), (13, .bptr 207 0), (32, .int x.a.c.ms.length), (33, .int k)], sgH x (hul1 x.a x.t k)⟩, inv := λ k => k <= x.a.c.ms.length, meas := λ k => x.a.c.ms.length - k, first := [(201, 1016), (202, 1032), (203, 2128), (204, 2144), (205, 2160), (206, 5000), (207, 6016), (208, 2032), (209, 2033)] }
def sg1 (x : CZI) (l : Nat) : Shape := { α := Nat, dflt := 0, T := λ g => ⟨[(0, .fn (.yield l) [] []), (1, .bptr 14016 0), (12, .int (wr ((x.a.c.ms.length : Int) - 1))), (13, .int g)], sgH x (hul2 x.a x.t g) ++ [(14016, .live (.box [.bptr 208 0]))]⟩, inv := λ g => g <= x.a.c.ms.length - 1, meas := λ g => 50 - g }
noncomputable def itSg (x : CZI) : IterAnn := { fn := Un, code := AH Un, live := [5, 6, 8, 9, 10, 12, 13], ann := { base := λ id => 100000 + 1000 * (id + 1), Γ := Sym.look [], E := [201, 202, 203, 204, 205, 206, 207, 208, 209, 14016], n := 66, inner := λ gs id => if id = 1 then some [sg1 x (gs.getD 0 0)] else none } }
noncomputable def AVJ (x : CZI) : Ann := { ann 92 [(Pm, C_rdO.spec pZ), (sA, vS), (U4, C_hadd.spec dHuS), (H3, C_gaps.spec Ze), (yJ, C_part.spec dDkQ), (YX, C_nar.spec dDkS), (wV, C_who.spec dHu1)] with iter := λ g => if g = Kn then some (itSg x) else none, loops := λ id => if id = 7 then some [sg7 x] else none }
def APZ : Ann := ann 92 [(Pm, C_rdX.spec pZ)]
def AXL (x : CZI) : Prop := CH Try.prog (AVJ x) wP (AH wP) (xCZI x) (AB []) (.tup [.d (IL (yR (uL x)).1), .int (yR (uL x)).2]) [] [] []
abbrev US:=CZI.a
abbrev Rh:=CZI.t
abbrev Kw a:=Hul.mk (Jl a) (Jo a)
abbrev Ak a b:=hul1 (US a) (Rh a) b
abbrev Sa a:=Mf (Kw a)
abbrev mI a b c d:=AF a b c d b
abbrev W6 a b c:=mI a b c a
abbrev Kv a b:=Jl (Ak a b)
abbrev ZO a b:=hul2 (US a) (Rh a) b
abbrev Sq a b:=Jl (ZO a b)
abbrev APA a b:=EK a b b
abbrev PY a:=DO (US a)
abbrev Cj a b c:=AE a (AG b) c
abbrev Fk a b c:=jW a b BQ c
abbrev XE a b c (d:Nat->Prop) e:=AF a b c (AD d) e
abbrev XU a:=RV (US a)
abbrev FJ a:=JA (US a)
abbrev Xt a b:=KH (Jo a) (Jo b)
abbrev QL a b:=Uc (PY a) b
abbrev Ox a b:=BM (QL a b)
abbrev XW a:=Dh (PY a)
abbrev aX a:=KC (XW a)
abbrev XC a:=Uy (US a)
abbrev aJ a:=KA (XC a)
abbrev aP a:=KC (XC a)
abbrev Ry a:=AG (Rh a)
abbrev Hf a:=wr (Y3 a 1)
abbrev Pi a b:=aR (Kw a) b
abbrev oF a:=GU (Rh a)
abbrev jE a:=BB (PY a)
abbrev Ww a b:=KI a (jE b)
abbrev Tu a:=Ji (US a) (PY a) (US a)
abbrev Nl a b:=tF (Tu a) (US b)
abbrev bD a b:=kA (Tu a) (US b)
abbrev NP a b:=EO a (BZ b)
abbrev Py a b:=CF (XB (Tu a) (US b))
attribute [go_sem] US Rh Kw Ak Sa mI W6 Kv ZO Sq APA PY Cj Fk XE XU FJ Xt QL Ox XW aX XC aJ aP Ry Hf Pi oF jE Ww Tu Nl bD NP Py
theorem BEI (x : CZI) : (AXL x) = (IG (PU (US x) (PY x) (NN (US x) (PY x)) (OX (US x) (PY x)) (BE (PY x)) (IQ (Py x x))) (GN (λ i=>And (And (NP (jE x) (ED (QI (bD x x)))) (Fk (BR i) (Ry x) (XE (II (XC x) (QI (bD x x))) (JQ (XC x) (QI (bD x x))) (II (XW x) (Dh (Tu x))) (λ j=>LI j (XW x) (QL x j) (Uc (Tu x) j)) (AK (Fp (Kv x i)) (Fm (Kv x i)) (EF (Jo (Ak x i))) (TH (FJ x) (Nl x x)) (UC (FJ x) (Nl x x)) (TU (FJ x) (Nl x x)) (UB (FJ x) (Nl x x)) (TC (FJ x) (Nl x x)) (SO (TQ (FJ x) (Nl x x)) (λ j=>UA j (FJ x) (Nl x x) j j) (UK (FJ x) (Nl x x)) (λ j=>DW j (FJ x) (TM (FJ x) j (Nl x x) j j j j)) (AD (λ j=>ZA j (XU x) j (JO (bD x x) j))) BT (λ j=>TW (FJ x) j (Nl x x) j) (λ j=>UF (XU x) j (bD x x) j) (λ j=>TR (FJ x) j (Nl x x) j j j)))))) (Ww i x))) (λ i=>GC (Ww i x) i (IV (PY x)) (PR (MI i (XC x)) (BZ i) (ED (XC x))) (DZ (KT (Rh x) (PT (XC x) i) (RN (XC x) i)) (EW (MI i (XW x)) (Ox x i) (AZ (QL x i)) (XF (Ak x i)) (AZ (Kv x i)) (Ix (Ak x i))) (GN (λ j=>EB (And (WW (PY x)) (Fk (BD j i) (Ry x) (XE (aP x) (aJ x) (aX x) (λ k=>YN k (XW x) (Ox x k) (QL x k)) (KD (BN (Kv x j) (Pi (Ak x i) (QL x i))) (AX (Kv x j) (Pi (Ak x i) (QL x i))) (CK (Jo (Ak x j))) (FJ x) (XU x))))) (Ww j x) (jE x) j i)) (GN (λ j=>EB (And (WW (PY x)) (Fk (BD j i) (Ry x) (XE (aP x) (aJ x) (aX x) (λ k=>YN k (XW x) (Ox x k) (QL x k)) (KD (BN (Kv x j) (Kv x i)) (AX (Kv x j) (Kv x i)) (Xt (Ak x j) (Ak x i)) (FJ x) (XU x))))) (Ww j x) (jE x) j i))) (DZ (KT (Rh x) (-100000000) 100000000) (AO (AQ (FJ x)) (AT (FJ x)) (AP (FJ x)) (NZ (AS (FJ x)) (AV (FJ x)) (BO (FJ x)) (BL (FJ x)) (BE (FJ x)) (BI (FJ x)) (λ j=>KZ j (XU x)) (HT (PE (FJ x)) (GJ (XU x)) (HL (FJ x)) (FJ x) (MC (CQ (FJ x)) (λ j=>DG j (FJ x)) (DH (FJ x)) (λ j=>DI j (FJ x)) (XU x) (λ j=>QG (FJ x) j) (JK (FJ x)))))) (AD (λ j=>DP (λ k=>And (AE (SA j) (AR (Hf (PY x)) (Fv (FJ x))) (Fk (BR k) (Ry x) (XE (aP x) (aJ x) (aX x) (λ l=>YN l (XW x) (Ox x l) (QL x l)) (KD (BN (Sq x k) (Kv x i)) (AX (Sq x k) (Kv x i)) (Xt (ZO x k) (Ak x i)) (FJ x) (XU x))))) (Oz k (PY x))) (λ k=>BU (Oz k (PY x)) (TJ (HB k (Hf (PY x))) (YT (DS k) (FJ x) (BZ k)) (Oc k) (Il k) (APA (JO (XU x) k) (AE (BC j) (AE (JG (XC x)) (QH (XC x)) (HT (AG (DS k)) (AG (PV (Rh x))) (AG (oF x)) (FJ x) (NX (FJ x) (XU x) (MJ (HL (FJ x)) (AQ (FJ x)) (FJ x) (AP (FJ x)) (AS (FJ x)) (CQ (FJ x)) (DN (FJ x)) (OG (FJ x) (XU x) (UZ (NA (NG (XC x)) 40) (DS k) (Lz (DS k) (NG (XC x)))) (DC (JG (jO (XC x) (DS k) (Rh x) (oF x))) (λ l=>PJ l (IP (jO (XC x) (DS k) (Rh x) (oF x))) (jO (XC x) (DS k) (Rh x) (oF x))) (AQ (FJ x)) (AT (FJ x)) (AP (FJ x)) (AS (FJ x)) (AV (FJ x)) (BO (FJ x)) (WY (FJ x) (LQ (XU x)) (GJ (XU x)) (ZD (FJ x) (CQ (FJ x)) (λ l=>DG l (FJ x)) (DH (FJ x)) (QN (FJ x) (λ l=>KZ l (XU x)) BT (JI (FJ x)) (GJ (XU x)) (JK (FJ x)) (LM (NG (jO (XC x) (DS k) (Rh x) (oF x))) (FJ x)) (QP (FJ x)) (NQ (FJ x))))))))))) (Fu (UY (XT (FJ x) (XU x) (jO (XC x) (DS k) (Rh x) (oF x)))) (EW (MI k (XW x)) (Ox x k) (AZ (QL x k)) (XF (ZO x k)) (AZ (Sq x k)) (Ix (ZO x k))) (EW (WB (DS k) (XW x)) (Ox x (El k)) (AZ (QL x (El k))) (XF (cN (Kw (ZO x k)) (QL x k))) (AZ (Pi (ZO x k) (QL x k))) GF) (λ l=>WI (Cj (SA j) (Hf (PY x)) (Fk (BD l k) (Ry x) (XE (aP x) (aJ x) (aX x) (λ m=>YN m (XW x) (Ox x m) (QL x m)) (KD (BN (Sq x l) (Pi (cN (Kw (ZO x k)) (QL x k)) (QL x (El k)))) (AX (Sq x l) (Pi (cN (Kw (ZO x k)) (QL x k)) (QL x (El k)))) (CK (Jo (ZO x l))) (FJ x) (XU x))))) (Oz l (PY x)) l k) (GN (λ l=>WI (Cj (SA j) (Hf (PY x)) (Fk (BD l k) (Ry x) (XE (aP x) (aJ x) (aX x) (λ m=>YN m (XW x) (Ox x m) (QL x m)) (KD (BN (Sq x l) (Sq x k)) (AX (Sq x l) (Sq x k)) (Xt (ZO x l) (ZO x k)) (FJ x) (XU x))))) (Oz l (PY x)) l k))))) (AO (And (XF (ZO x k)) (W6 (AZ (Sq x k)) (Ix (ZO x k)) (XF (ZO x k)))) (BN (Mf (uL x)) (Sa (ZO x k))) (AX (Mf (uL x)) (Sa (ZO x k))) (AR (Kx (uL x)) (Kx (Kw (ZO x k))))))))) (AO (And (XF (Ak x i)) (W6 (AZ (Kv x i)) (Ix (Ak x i)) (XF (Ak x i)))) (BN (Mf (uL x)) (Sa (Ak x i))) (AX (Mf (uL x)) (Sa (Ak x i))) (AR (Kx (uL x)) (Kx (Kw (Ak x i)))))))) := by kernel_rfl
def AOR (x : CZI) : Prop := CH Try.prog APZ wP (AH wP) (xCZI x) (AB []) (.tup [.d (IL zSp), .int (CF x.a)]) [] [] []
theorem AYB (x : CZI) : (AOR x) = (SK (PU (US x) (PY x) (NN (US x) (PY x)) (OX (US x) (PY x)) (BE (PY x)) (RO (Py x x))) (Py x x) (QF BQ (Gt (US x) (Py x x))) JV) := by kernel_rfl
theorem BJG (x : CZI) (h1 : x.a.c.ms.length < 4611686018427387904 /\ x.a.c.ns.length < 4611686018427387904 /\ x.a.z.length < 4611686018427387904) (c0 : CF x.a = 0) : AXL x := by
 have tl := yH c0
 have sl := mV x.a.c
 have hl := IX (Qs c0).1
 obtain ⟨_, ⟨n1, n2⟩, _⟩ := hl
 have w1 : wr ((x.a.c.ms.length : Int) - 1) = ((x.a.c.ms.length - 1 : Nat) : Int) := by unfold wr; rw [Bc (by omega) (by omega)]; omega
 have w2 : IntKind.i64.wrap ((x.a.c.ms.length : Int) - 1) = ((x.a.c.ms.length - 1 : Nat) : Int) := w1
 have po : ∀ g : Nat, (OH (CV x.a) (parL (Uy x.a) ((g : Int) + 1) (IntKind.i64.wrap (x.t - 1)) (IntKind.i64.wrap (x.t + 1)))).all Du = AGW x.a x.t g := λ _ => rfl
 rw [BEI]<;> delta KH ZR BG BJ EC MM NO Hc ES ET BW ED AD BU CL AR GK BZ SC DJ EK JH HO KB NL LO EJ GW EX HP HN HJ GT GB HC DU GG FE JW GN Ef uS FP FK VV JL FY NY EU MP KI AL JO DO LY RV Dh mR Vx SW Jo Jl sV Y2 US Rh AE CR FA BB JA GA AF PX AY AU SX RA AG EM EZ APA BC FD mI W6 jW AX FC BM CJ AK Gg AN DD tA BH HX BY XN BP CX Bj HZ BN CY BS CE HQ QX FU AV DA AQ PY Jc EV DW AZ PF tF LX DQ CP FT AS OT ZW FJ FS DM Ji AP ID AT EG CN BX NE GI CM HD CG IY GP GU OK EN DS FH HV AO DC Cn CK DT BT UR EL FV IP DK CD NF EP HW EO JY IV DB FN CB FM dC KZ XB UV KC VU PV TL JB DZ ML Uc Cs BD PH EA MB FQ PZ FR NG IW Y3 kA NH VS GJ LQ BE LI Mx DX FO FZ LL KL NC GH SV JU BQ IC LM LB YN OI Ct XC PI SY Bi EW Ja El IQ HS HB BO EB DH CQ BK JF OB VM GY CS EE EF GM FI GF II TV BR BI KQ BL OF EY RZ DG Ba MC UL PN HM OJ GC QL DP NP KA PJ DI SE TD VI OC MY PT UZ DN RN NN XW RC PE Lw Kw PR KO ZO Tu Ak MV HT UM QG UG TN JQ HL JI VL KS WA Lb NA TK TG XM IG QP QI XU Oz JK RS SP MI SA Lc NQ JG OY PC KD WP VB Mf XF UY OX WF Lz XI Gl Bz WW TO WB jE XR Ns aR Nl Mh XT QH RJ WZ Au Kq TC TQ UK Kv Mc TH UB XE UF TW K1 TU Ix NZ MJ ZD UW VG UC Ox Sq Ry Kx Hf WI Gx Lv TJ jO YT Pi UA Cj Sa Fv Td Fk Fp Fm ZA NX OG Ww aJ aX Hb Il SO QN TR Hq TM Bu Py aP Fu bD oF Oc WY PU Xt; simp only [CC, eq_self, implies_true, forall_const, CU, Rz, Ev, WD, Mb, ANB, BHD]; simp only [tl, sl, w1, w2, eK]
 have e1 : ∀ k, KT x.t (gD (Uy x.a) k).lo (gD (Uy x.a) k).hi = true -> hul1 x.a x.t (k + 1) = cN (hul1 x.a x.t k) (gD (Eg x.a.c) k) := λ k h => by
  show (bif KT x.t (gD (Uy x.a) k).lo (gD (Uy x.a) k).hi then _ else _) = _; rw [h]; rfl
 have e0 : ∀ k, KT x.t (gD (Uy x.a) k).lo (gD (Uy x.a) k).hi = false -> hul1 x.a x.t (k + 1) = hul1 x.a x.t k := λ k h => by
  show (bif KT x.t (gD (Uy x.a) k).lo (gD (Uy x.a) k).hi then _ else _) = _; rw [h]; rfl
 have f1 : ∀ g, AGW x.a x.t g = true -> hul2 x.a x.t (g + 1) = cN (cN (hul2 x.a x.t g) (gD (Eg x.a.c) g)) (gD (Eg x.a.c) (g + 1)) := λ g h => by
  show (bif AGW x.a x.t g then _ else _) = _; rw [h]; rfl
 have f0 : ∀ g, AGW x.a x.t g = false -> hul2 x.a x.t (g + 1) = hul2 x.a x.t g := λ g h => by
  show (bif AGW x.a x.t g then _ else _) = _; rw [h]; rfl
 refine ⟨⟨h1, c0⟩, ⟨0, ⟨trivial, rfl, rfl, rfl, rfl⟩, Nat.zero_le _⟩, λ k hk => ⟨λ hlt => ⟨by omega, λ hin => ⟨by omega, k + 1, ⟨(HY (by omega)).symm, ?_, ?_, ?_⟩, by omega, by omega⟩, λ hin => ⟨k + 1, ⟨(HY (by omega)).symm, ?_, ?_, ?_⟩, by omega, by omega⟩⟩, λ hge => ⟨λ ht => ⟨⟨0, ⟨trivial, rfl, ?_, ?_, ?_⟩, Nat.zero_le _⟩, λ g hg => ⟨λ hlt => ?_, λ hgg => ?_⟩⟩, λ ht => ?_⟩⟩⟩
 ·rw [e1 k hin]
 ·rw [e1 k hin]
 ·rw [e1 k hin]; rfl
 ·rw [e0 k hin]
 ·rw [e0 k hin]
 ·rw [e0 k hin]
 ·obtain rfl : k = x.a.c.ms.length := by omega
  rfl
 ·obtain rfl : k = x.a.c.ms.length := by omega
  rfl
 ·obtain rfl : k = x.a.c.ms.length := by omega
  rfl
 ·have hlt : g < x.a.c.ms.length - 1 := by omega
  have ew : IntKind.i64.wrap ((g : Int) + 1) = (g : Int) + 1 := by rw [HY (by omega)]; rfl
  have tn : ((g : Int) + 1).toNat = g + 1 := by omega
  have ec : ((g + 1 : Nat) : Int) = (g : Int) + 1 := rfl
  simp only [ew, tn, po]
  have body : ((((0 : Nat) < x.a.c.ms.length /\ x.a.c.ms.length <= 40) /\ 0 <= (g : Int) + 1 /\ (g : Int) + 1 <= x.a.c.ms.length)) := ⟨⟨by omega, by omega⟩, by omega, by omega⟩
  refine ⟨⟨⟨by omega, by omega⟩, by omega, by omega⟩, ⟨by omega, by omega⟩, by omega, λ _ => ?_, λ _ => ?_⟩ <;>
  ·refine ⟨⟨body, trivial, by omega, n2⟩, λ h => ⟨⟨by omega, by omega⟩, ⟨by omega, by omega⟩, g + 1, ⟨ec, ?_, ?_, ?_⟩, by omega, by omega⟩, λ h => ⟨g + 1, ⟨ec, ?_, ?_, ?_⟩, by omega, by omega⟩⟩
   ·rw [f1 g h]
   ·rw [f1 g h]
   ·rw [f1 g h]; rfl
   ·rw [f0 g h]
   ·rw [f0 g h]
   ·rw [f0 g h]
 ·obtain rfl : g = x.a.c.ms.length - 1 := by omega
  have : uL x = hul2 x.a x.t (x.a.c.ms.length - 1) := by unfold uL; rw [ht]; rfl
  rw [this]; exact ⟨rfl, rfl, rfl⟩
 ·obtain rfl : k = x.a.c.ms.length := by omega
  have : uL x = hul1 x.a x.t x.a.c.ms.length := by unfold uL; rw [ht]; rfl
  rw [this]; exact ⟨rfl, rfl, rfl⟩
def rZ (x : CZI) : Nat -> Hul × Bool
 | 0 => (zHul, false)
 | k + 1 => bif (rZ x k).2 then rZ x k else bif decide ((gD (Eg x.a.c) k).hi >= x.t) then (cN (rZ x k).1 (gD (Uy x.a) k), decide ((gD (Eg x.a.c) k).lo >= x.t)) else rZ x k
structure FsR where
 s : Span
 b : Bool
 e : Int
def fsV (x : CZI) : FsR := ⟨(yR (rZ x x.a.c.ms.length).1).1, bif (rZ x x.a.c.ms.length).2 then (yR (rZ x x.a.c.ms.length).1).2 == 0 else false, (yR (rZ x x.a.c.ms.length).1).2⟩
def Vs (x : CZI) : FsR := bif CF x.a == 0 then fsV x else ⟨⟨0, 0⟩, false, CF x.a⟩
def C_First : Ctr := { α := CZI, xs := xCZI, val := λ x => .tup [.d (IL (Vs x).s), .bool (Vs x).b, .int (Vs x).e], keep := λ _ => [], pre := λ x => [x.a.c.ms.length < 4611686018427387904 /\ x.a.c.ns.length < 4611686018427387904 /\ x.a.z.length < 4611686018427387904] }
def fs7 (x : CZI) : Shape := { α := Nat, dflt := 0, T := λ k => ⟨[(2, .int x.t), (6, .bptr 202 0), (10, .d (DE (Uy x.a))), (11, .d (DE (Eg x.a.c))), (13, .bptr 206 0), (14, .bool (rZ x k).2), (15, .int k)], [(202, .live (.box [.int 0, .int 0])), (206, .live (hlB (rZ x k).1))]⟩, inv := λ k => k <= x.a.c.ms.length, meas := λ k => x.a.c.ms.length - k, first := [(202, 1016), (206, 5000)] }
def AXB (x : CZI) : Ann := { ann 69 [(Pm, C_rdO.spec pZ), (U4, C_hadd.spec dHuS), (wV, C_who.spec dHu1)] with loops := λ id => if id = 7 then some [fs7 x] else none }
def APD : Ann := ann 69 [(Pm, C_rdX.spec pZ)]
def AWR (x : CZI) : Prop := CH Try.prog (AXB x) xT (AH xT) (xCZI x) (AB []) (.tup [.d (IL (fsV x).s), .bool (fsV x).b, .int (fsV x).e]) [] [] []
abbrev Y1:=@Prod.snd Hul Bool
abbrev Bh a b:=(@Prod.fst Hul Bool) (rZ a b)
abbrev Sj a b:=Jl (Bh a b)
attribute [go_sem] Y1 Bh Sj
theorem BEO (x : CZI) : (AWR x) = (IG (PU (US x) (PY x) (NN (US x) (PY x)) (OX (US x) (PY x)) (BE (PY x)) (IQ (Py x x))) (GN (λ i=>And (FX (Ry x) (II (XC x) (QI (bD x x))) (JQ (XC x) (QI (bD x x))) (II (XW x) (Dh (Tu x))) (AD (λ j=>LI j (XW x) (QL x j) (Uc (Tu x) j))) (EF (Y1 (rZ x i))) (BR i) (XA BQ (Fp (Sj x i)) (Fm (Sj x i)) (EF (Jo (Bh x i))))) (Ww i x))) (λ i=>GM (Ww i x) (ER (Ff i (ED (XC x))) (not (Y1 (rZ x i)))) (MI i (XW x)) (Fu (rW (BJ (QL x i)) (Rh x)) (EW (MI i (XC x)) (Ct (XC x) i) (AZ (GK (XC x) i)) (XF (Bh x i)) (AZ (Sj x i)) (Ix (Bh x i))) (MI i (XW x)) (λ j=>EB (FX (Ry x) (aP x) (aJ x) (aX x) (AD (λ k=>YN k (XW x) (Ox x k) (QL x k))) (KH (Y1 (rZ x j)) (rW (BG (QL x i)) (Rh x))) (BD j i) (XA BQ (BN (Sj x j) (Pi (Bh x i) (GK (XC x) i))) (AX (Sj x j) (Pi (Bh x i) (GK (XC x) i))) (CK (Jo (Bh x j))))) (Ww j x) (jE x) j i) (GN (λ j=>EB (FX (Ry x) (aP x) (aJ x) (aX x) (AD (λ k=>YN k (XW x) (Ox x k) (QL x k))) (KH (Y1 (rZ x j)) (Y1 (rZ x i))) (BD j i) (XA BQ (BN (Sj x j) (Sj x i)) (AX (Sj x j) (Sj x i)) (Xt (Bh x j) (Bh x i)))) (Ww j x) (jE x) j i))) (CX (And (XF (Bh x i)) (W6 (AZ (Sj x i)) (Ix (Bh x i)) (XF (Bh x i)))) (BN (FsR.s (fsV x)) (Sa (Bh x i))) (FsR.s (fsV x)) (Sa (Bh x i)) (KH (FsR.b (fsV x)) (ER (Y1 (rZ x i)) (Ig (Kx (Kw (Bh x i)))))) (AR (FsR.e (fsV x)) (Kx (Kw (Bh x i))))))) := by kernel_rfl
def AQK (x : CZI) : Prop := CH Try.prog APD xT (AH xT) (xCZI x) (AB []) (.tup [.d (IL zSp), .bool false, .int (CF x.a)]) [] [] []
abbrev Az:=FD ZR
attribute [go_sem] Az
theorem AYH (x : CZI) : (AQK x) = (SK (PU (US x) (PY x) (NN (US x) (PY x)) (OX (US x) (PY x)) (BE (PY x)) (RO (Py x x))) (Py x x) (xW BQ Az (Gt (US x) (Py x x))) JV) := by kernel_rfl
theorem BHI : AJ Try.prog AMU (C_Stage.spec dCZI) := okT C_Stage (λ (x : CZI) h => by
 have h1 : x.a.c.ms.length < 4611686018427387904 /\ x.a.c.ns.length < 4611686018427387904 /\ x.a.z.length < 4611686018427387904 := h
 by_cases c0 : CF x.a = 0
 ·have e : C_Stage.val x = .tup [.d (IL (yR (uL x)).1), .int (yR (uL x)).2] := by
   show AVal.tup [.d (IL (kR x).1), .int (kR x).2] = _
   unfold kR; rw [c0]; rfl
  rw [e]
  exact Hp (A := AVJ x) (L := []) (keep := []) (ren := []) (fz := []) AQA (by kernel_rfl) (AA ABY (AA nD (AA ALF (AA zH (AA AWZ (AA AEP (AA ARR AC))))))) (BJG x h1 c0) (AOJ Kn (itSg x) rfl rfl AC lP (by kernel_rfl) (by kernel_rfl))
 ·have c0' : (CF x.a == 0) = false := by simpa using c0
  have e : C_Stage.val x = .tup [.d (IL zSp), .int (CF x.a)] := by
   show AVal.tup [.d (IL (kR x).1), .int (kR x).2] = _
   unfold kR; rw [c0']; rfl
  rw [e]
  refine Hp (A := APZ) (L := []) (keep := []) (ren := []) (fz := []) AQA (by kernel_rfl) (AA ABG AC) ?_
  show AOR x; rw [AYB]<;> delta BG BJ EC ES ET BW AD BU CL AR SC EK EJ GW EX HP HN HJ GT GB HC DU GG FE JW FP FK VV NJ JV DO LY Jf SW US AE CR FA BB GA AF PX AY AU SX AG EM EZ QF AX FC BM CJ AK Gg AN DD BH HX BY XN BP CX Bj HZ BN CY BS CE FU AV DA PY AZ PF CP FT AS Ji AP EG CM IY EN DT EL FV EP DB FN CB FM XB ML EA MB FQ VS BE FO FZ LL GH BQ Ja OB VM CS FI BI HM OJ OC MY HG NN KO Tu MV JZ RS SP OY PC WP VB OX WF RJ RO VG SK Gt Bu Py PU; simp only [CC, eq_self, implies_true, forall_const, CU, WD]
  exact ⟨⟨h1, c0⟩, λ h => by simp [c0] at h⟩) _
theorem AVQ {x : CZI} {k : Nat} (h : (rZ x k).2 = true) : ∀ d, rZ x (k + d) = rZ x k
 | 0 => rfl
 | d + 1 => by
  have ih := AVQ h d
  show (bif (rZ x (k + d)).2 then rZ x (k + d) else _) = _
  rw [ih, h]; rfl
theorem BJW (x : CZI) (h1 : x.a.c.ms.length < 4611686018427387904 /\ x.a.c.ns.length < 4611686018427387904 /\ x.a.z.length < 4611686018427387904) (c0 : CF x.a = 0) : AWR x := by
 have tl := yH c0
 have sl := mV x.a.c
 obtain ⟨_, ⟨n1, n2⟩, _⟩ := IX (Qs c0).1
 rw [BEO]<;> delta KH wN rW ZR BG BJ EC MM NO ES ET BW ED AD BU CL AR GK BZ SC EK JH HO KB NL LO EJ GW EX HP HN HJ GT GB HC DU GG FE JW GN FP FK VV Dx JL KI DO LY RV Dh mR Vx SW Jo Jl sV Y2 US Rh Y1 AE CR FA BB GA AF PX AY AU SX AG EM EZ BC FD mI W6 XA AX FC BM CJ AK Gg AN DD BH HX BY XN BP CX Bj HZ BN CY BS CE HQ FU AV DA PY AZ PF CP FT AS FS DM Ji AP EG CN CM IY GP GU EN DS FH AO CK DT EL FV CD EP EO JY DB FN CB FM XB KC JB DZ ML Uc BD EA MB FQ FR IW kA VS BE LI FO FZ LL GH JU BQ LB YN Ct XC EW Ja IQ HB EB OB VM CS EF GM FI II BR BI EY Ba PN FX HM OJ QL KA PJ OC Bh MY ER NN XW Kw KO Tu MV JQ KS IG QI RS SP MI OY PC WP VB Mf XF OX WF jE aR RJ Ix VG Ox Sj Ry Kx Pi Sa Fp Fm Ig Ff Ww aJ aX Bu Py aP Fu bD PU Xt; simp only [CC, eq_self, implies_true, forall_const, CU, Rz, Ev, WD, Mb, ANB, BHD]; simp only [tl, sl]
 refine ⟨⟨h1, c0⟩, ⟨0, ⟨rfl, rfl, rfl, rfl, rfl⟩, Nat.zero_le _⟩, λ k hk => ⟨λ hc => ?_, λ hc => ?_⟩⟩
 ·have hlt : k < x.a.c.ms.length := by
   cases hd : decide ((k : Int) < x.a.c.ms.length) with
   | false => rw [hd] at hc; cases hc
   | true => have := of_decide_eq_true hd; omega
  have hs : (rZ x k).2 = false := by
   rw [decide_eq_true (show (k : Int) < x.a.c.ms.length by omega)] at hc
   cases hq : (rZ x k).2 with
   | false => rfl
   | true => rw [hq] at hc; cases hc
  refine ⟨by omega, λ h => ?_, λ h => ?_⟩
  ·have e : rZ x (k + 1) = (cN (rZ x k).1 (gD (Uy x.a) k), decide ((gD (Eg x.a.c) k).lo >= x.t)) := by
    show (bif (rZ x k).2 then _ else bif decide _ then _ else _) = _
    rw [hs, decide_eq_true h]; rfl
   refine ⟨by omega, by omega, k + 1, ⟨?_, (HY (by omega)).symm, ?_, ?_, ?_⟩, by omega, by omega⟩ <;> rw [e] <;> rfl
  ·have e : rZ x (k + 1) = rZ x k := by
    show (bif (rZ x k).2 then _ else bif decide _ then _ else _) = _
    rw [hs, decide_eq_false h]; rfl
   refine ⟨k + 1, ⟨?_, (HY (by omega)).symm, ?_, ?_, ?_⟩, by omega, by omega⟩ <;> rw [e]
 ·have e : rZ x x.a.c.ms.length = rZ x k := by
   cases hq : (rZ x k).2 with
   | true =>
    obtain ⟨d, hd⟩ : ∃ d, x.a.c.ms.length = k + d := ⟨x.a.c.ms.length - k, by omega⟩
    rw [hd]; exact AVQ hq d
   | false =>
    rw [hq] at hc
    cases hd : decide ((k : Int) < x.a.c.ms.length) with
    | true => rw [hd] at hc; cases hc
    | false =>
     have := of_decide_eq_false hd
     rw [show k = x.a.c.ms.length by omega]
  unfold fsV; rw [e]; exact ⟨rfl, rfl, rfl, rfl⟩
theorem BFT : AJ Try.prog AJY (C_First.spec dCZI) := okT C_First (λ (x : CZI) h => by
 have h1 : x.a.c.ms.length < 4611686018427387904 /\ x.a.c.ns.length < 4611686018427387904 /\ x.a.z.length < 4611686018427387904 := h
 by_cases c0 : CF x.a = 0
 ·have e : C_First.val x = .tup [.d (IL (fsV x).s), .bool (fsV x).b, .int (fsV x).e] := by
   show AVal.tup [.d (IL (Vs x).s), .bool (Vs x).b, .int (Vs x).e] = _
   unfold Vs; rw [c0]; rfl
  rw [e]
  exact Hp (A := AXB x) (L := []) (keep := []) (ren := []) (fz := []) APN (by kernel_rfl) (AA ABY (AA ALF (AA ARR AC))) (BJW x h1 c0)
 ·have c0' : (CF x.a == 0) = false := by simpa using c0
  have e : C_First.val x = .tup [.d (IL zSp), .bool false, .int (CF x.a)] := by
   show AVal.tup [.d (IL (Vs x).s), .bool (Vs x).b, .int (Vs x).e] = _
   unfold Vs; rw [c0']; rfl
  rw [e]
  refine Hp (A := APD) (L := []) (keep := []) (ren := []) (fz := []) APN (by kernel_rfl) (AA ABG AC) ?_
  show AQK x; rw [AYH]<;> delta KH ZR BG BJ EC ES ET BW AD BU CL AR SC EK EJ GW EX HP HN HJ GT GB HC DU GG FE JW FP FK VV NJ JV DO LY Jf SW US AE CR FA BB GA AF PX AY AU SX AG EM EZ FD AX FC BM CJ AK Gg AN DD BH HX BY XN BP CX Bj HZ BN CY BS CE FU AV DA PY AZ PF CP FT AS Ji AP EG CM IY EN AO DT EL FV xW EP DB FN CB FM XB ML EA MB FQ VS BE FO FZ LL GH BQ Ja OB VM CS FI BI HM OJ OC MY HG NN KO Tu MV JZ RS SP OY PC WP VB OX WF RJ Az RO VG SK Gt Bu Py PU; simp only [CC, eq_self, implies_true, forall_const, CU, WD]
  exact ⟨⟨h1, c0⟩, λ h => by simp [c0] at h⟩) _
end Go.Bal
