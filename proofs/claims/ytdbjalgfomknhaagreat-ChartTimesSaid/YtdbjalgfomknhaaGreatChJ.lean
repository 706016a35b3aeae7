/- Package chart: the greatest stages from a time to another one. -/
import Derived.Test.YtdbjalgfomknhaaGreatChI
set_option linter.unusedVariables false
set_option linter.unusedSimpArgs false
namespace Go.Bal
open Go Go.Sym Go.Proofs
structure CZ2 where
 a : CZ
 f : Int
 t : Int
structure IJ where
 i : Nat
 j : Nat
 deriving Inhabited
def dCZ2 : List AVal -> Heap -> Option (CZ2 × List (Nat × Nat) × List Nat)
 | [x, y, .d f, .d t], H => match nM x H, fM y H with
  | some (c, g), some (l, e) => some (⟨⟨c, l⟩, HK f, HK t⟩, [], g ++ e)
  | _, _ => none
 | _, _ => none
def xCZ2 (x : CZ2) : List AVal := [.d (Dj x.a.c), .d (DV x.a.z), .int x.f, .int x.t]
def Z1 (x : CZ2) : Int := PD x.f (-100000001)
def Z7 (x : CZ2) : Int := Bn x.t 100000001
def AIL (x : CZ2) (a b : Nat) : Bool := (OH (CV x.a) (P5 (Uy x.a) (a : Int) (b : Int) (Z1 x) (Z7 x))).all Du
def sliS (x : CZ2) (a b : Nat) : List Span := IK (b + 1 - a) λ i => gD (Eg x.a.c) (a + i)
def pkI (x : CZ2) (a : Nat) (h : Hul) : Nat -> Hul
 | 0 => h
 | k + 1 => bif AIL x a (a + k) then cN (pkI x a h k) ⟨gLo (sliS x a (a + k)), gHi (sliS x a (a + k))⟩ else pkI x a h k
def pkO (x : CZ2) : Nat -> Hul
 | 0 => zHul
 | a + 1 => bif decide (Z7 x >= Z1 x) then pkI x a (pkO x a) (x.a.c.ms.length - a) else pkO x a
def X2 (x : CZ2) : Span × Int := bif decide (x.t < x.f) then (⟨0, 0⟩, 4) else yR (pkO x x.a.c.ms.length)
def W3 (x : CZ2) : Span × Int := bif CF x.a == 0 then X2 x else (⟨0, 0⟩, CF x.a)
def C_Peak : Ctr := { α := CZ2, xs := xCZ2, val := λ x => .tup [.d (IL (W3 x).1), .int (W3 x).2], keep := λ _ => [], pre := λ x => [x.a.c.ms.length < 4611686018427387904 /\ x.a.c.ns.length < 4611686018427387904 /\ x.a.z.length < 4611686018427387904] }
def pkS (x : CZ2) (a : Nat) : List (Nat × AVal) := [(2, .int (Z1 x)), (3, .int (Z7 x)), (8, .bptr 202 0), (10, .bptr 208 0), (11, .d (DE (Uy x.a))), (12, .d (DE (Eg x.a.c))), (14, .bptr 206 0), (42, .int x.a.c.ms.length), (43, .int a)]
def pkH (x : CZ2) (h : Hul) : List (Nat × HCell) := [(202, .live (.box [.int 0, .int 0])), (206, .live (hlB h)), (208, .live (dkB (CV x.a) 209)), (209, .live (dkM (CV x.a)))]
def pk9 (x : CZ2) : Shape := { α := Nat, dflt := 0, T := λ a => ⟨pkS x a, pkH x (pkO x a)⟩, inv := λ a => a <= x.a.c.ms.length, meas := λ a => x.a.c.ms.length - a, first := [(202, 1016), (206, 8000), (208, 2032), (209, 2033)] }
def pk12 (x : CZ2) (m : Nat) : Shape := { α := IJ, dflt := default, T := λ s => ⟨[(15, .int s.i), (16, .int s.j)] ++ pkS x s.i, pkH x (pkI x s.i (pkO x s.i) (s.j - s.i))⟩, inv := λ s => s.i < x.a.c.ms.length /\ x.a.c.ms.length - s.i = m /\ s.i <= s.j /\ s.j <= x.a.c.ms.length /\ (s.i < s.j -> Z7 x >= Z1 x), meas := λ s => x.a.c.ms.length - s.j }
def BAT (x : CZ2) : Ann := { ann 91 [(Pm, C_rdO.spec pZ), (ABT, C_win.spec dDkW), (YX, C_nar.spec dDkS), (AIZ, C_least.spec dN0c), (ATP, C_most.spec dN0c), (hX, orS (C_grL.spec BOK) (C_grH.spec BPC)), (U4, C_hadd.spec dHuS), (wV, C_who.spec dHu1)] with loops := λ id => if id = 9 then some [pk9 x] else none, inner := λ gs id => if id = 12 then some [pk12 x (gs.getD 0 0)] else none }
def AUI : Ann := ann 91 [(Pm, C_rdX.spec pZ)]
def BHN (x : CZ2) : Prop := CH Try.prog (BAT x) AFV (AH AFV) (xCZ2 x) (AB []) (.tup [.d (IL (X2 x).1), .int (X2 x).2]) [] [] []
abbrev XJ:=CZ2.a
abbrev W2:=X2
abbrev dB:=@Exists IJ
abbrev HH:=IJ.i
abbrev IA:=IJ.j
abbrev AHK:=@GE.ge Int Int.instLEInt
abbrev Y7:=λ (f : IJ -> Prop) => ∀ (x : IJ), f x
abbrev hC a b:=Jl (pkO a b)
abbrev Kl a:=DO (XJ a)
abbrev RP a:=BB (Kl a)
abbrev Hk a:=RV (XJ a)
abbrev KJ a:=JA (XJ a)
abbrev Yb a b:=LO a (HH b)
abbrev Ss a b c d e:=pkI a (HH b) (pkO c (HH d)) (Yb (IA e) e)
abbrev Ob a b c d e:=Jl (Ss a b c d e)
abbrev Ts a b:=Uc (Kl a) b
abbrev Lt a:=Dh (Kl a)
abbrev UD a:=Uy (XJ a)
abbrev Qm a b c:=AU a (IA b) c
abbrev hU a b:=DJ (IA a) b
abbrev Sh a b:=NP (HH a) b
abbrev No a b:=Sh a (HH b)
abbrev ADE a b c:=Ts a (QC (HH b) c)
abbrev ADH a:=Yb (El (IA a)) a
abbrev Fl a b c:=Ef (ADH a) (λ i=>ADE b c i)
abbrev Kj a:=BZ (HH a)
abbrev Yg a:=BZ (IA a)
abbrev Po a:=DY (XJ a)
attribute [go_sem] XJ W2 dB HH IA AHK Y7 hC Kl RP Hk KJ Yb Ss Ob Ts Lt UD Qm hU Sh No ADE ADH Fl Kj Yg Po
theorem BMD (x : CZ2) : (BHN x) = (HG (PU (XJ x) (Kl x) (NN (XJ x) (Kl x)) (OX (XJ x) (Kl x)) (BE (Kl x)) (IQ (ZC (XJ x)))) (JH (CZ2.t x) (CZ2.f x)) (AE (Fp (sV (W2 x))) (Fm (sV (W2 x))) (AR (Y2 (W2 x)) 4)) (DP (λ i=>And (IR (AR (Z1 x) (Mv (CZ2.f x) (-100000001))) (AR (Z7 x) (mH (CZ2.t x) 100000001)) (II (UD x) (QI (MZ (XJ x)))) (JQ (UD x) (QI (MZ (XJ x)))) (II (Lt x) (Dh (OS (XJ x)))) (AD (λ j=>LI j (Lt x) (Ts x j) (Uc (OS (XJ x)) j))) (Fk (NP (RP x) (ED (QI (MZ (XJ x))))) (BR i) (AK (Fp (hC x i)) (Fm (hC x i)) (EF (Jo (pkO x i))) (TH (KJ x) (Po x)) (UC (KJ x) (Po x)) (TU (KJ x) (Po x)) (UB (KJ x) (Po x)) (TC (KJ x) (Po x)) (SO (TQ (KJ x) (Po x)) (λ j=>UA j (KJ x) (Po x) j j) (UK (KJ x) (Po x)) (λ j=>DW j (KJ x) (TM (KJ x) j (Po x) j j j j)) (AD (λ j=>ZA j (Hk x) j (JO (MZ (XJ x)) j))) BT (λ j=>TW (KJ x) j (Po x) j) (λ j=>UF (Hk x) j (MZ (XJ x)) j) (λ j=>TR (KJ x) j (Po x) j j j))))) (KI i (RP x))) (λ i=>GC (KI i (RP x)) i (IV (Kl x)) (dB (λ j=>EW (AK (Sh j i) (NP (IA j) i) (AG (Z1 x)) (AG (Z7 x)) (KC (UD x)) (KA (UD x)) (KC (Lt x)) (AD (λ k=>YN k (Lt x) (BM (Ts x k)) (Ts x k))) (Fk (WW (Kl x)) (Sh j i) (KD (BN (Ob x j x j j) (hC x i)) (AX (Ob x j x j j) (hC x i)) (Xt (Ss x j x j j) (pkO x i)) (KJ x) (Hk x)))) (CL (HH j) (RP x)) (Af (Yb (RP x) j) (RP x) i) (DJ (HH j) (IA j)) (hU j (RP x)) (Qm (HH j) j (AHK (Z7 x) (Z1 x))))) (Y7 (λ j=>GM (AF (CL (HH j) (RP x)) (Af (Yb (RP x) j) (RP x) i) (DJ (HH j) (IA j)) (hU j (RP x)) (Qm (HH j) j (AHK (Z7 x) (Z1 x)))) (ER (Ff (IA j) (ED (UD x))) (rW (Z7 x) (Z1 x))) (AO (JG (UD x)) (QH (UD x)) (IM (HH j)) (HT (IM (IA j)) (AG (Z1 x)) (AG (Z7 x)) (KJ x) (NX (KJ x) (Hk x) (MJ (HL (KJ x)) (AQ (KJ x)) (KJ x) (AP (KJ x)) (AS (KJ x)) (CQ (KJ x)) (DN (KJ x)) (OG (KJ x) (Hk x) (AO (NA (NG (UD x)) 40) (FR (HH j) (NG (UD x))) (CN (Yg j)) (DM (Yg j) (NG (UD x)))) (DC (JG (P5 (IP (UD x)) (Kj j) (Yg j) (Z1 x) (Z7 x))) (λ k=>PJ k (IP (P5 (IP (UD x)) (Kj j) (Yg j) (Z1 x) (Z7 x))) (P5 (IP (UD x)) (Kj j) (Yg j) (Z1 x) (Z7 x))) (AQ (KJ x)) (AT (KJ x)) (AP (KJ x)) (AS (KJ x)) (AV (KJ x)) (BO (KJ x)) (WY (KJ x) (LQ (Hk x)) (GJ (Hk x)) (ZD (KJ x) (CQ (KJ x)) (λ k=>DG k (KJ x)) (DH (KJ x)) (QN (KJ x) (λ k=>KZ k (Hk x)) BT (JI (KJ x)) (GJ (Hk x)) (JK (KJ x)) (LM (NG (P5 (IP (UD x)) (Kj j) (Yg j) (Z1 x) (Z7 x))) (KJ x)) (QP (KJ x)) (NQ (KJ x))))))))))) (DZ (UY (XT (KJ x) (Hk x) (P5 (IP (UD x)) (Kj j) (Yg j) (Z1 x) (Z7 x)))) (AF (AE (CN (Kj j)) (HO (Kj j) (DS (IA j))) (Lz (DS (IA j)) (ED (Lt x)))) (JU (Fl j x j) (ADH j)) (AD (λ k=>EY k (Fl j x j) (ADE x j k))) (And (NB (ED (Fl j x j))) (LW (ED (Fl j x j)))) (AK (AE (CN (Kj j)) (HO (Kj j) (DS (IA j))) (Lz (DS (IA j)) (ED (Lt x)))) (JU (Fl j x j) (ADH j)) (AD (λ k=>EY k (Fl j x j) (ADE x j k))) (And (NB (ED (Fl j x j))) (LW (ED (Fl j x j)))) (AG (gLo (Fl j x j))) (AG (gHi (Fl j x j))) (XF (Ss x j x j j)) (AZ (Ob x j x j j)) (Ix (Ss x j x j j)))) (dB (λ k=>EB (AK (No k j) (BD (IA k) (IA j)) (AG (Z1 x)) (AG (Z7 x)) (KC (UD x)) (KA (UD x)) (KC (Lt x)) (AD (λ l=>YN l (Lt x) (BM (Ts x l)) (Ts x l))) (Fk (WW (Kl x)) (No k j) (KD (BN (Ob x k x k k) (Pi (Ss x j x j j) (Cm (gLo (Fl j x j)) (gHi (Fl j x j))))) (AX (Ob x k x k k) (Pi (Ss x j x j j) (Cm (gLo (Fl j x j)) (gHi (Fl j x j))))) (CK (Jo (Ss x k x k k))) (KJ x) (Hk x)))) (AF (CL (HH k) (RP x)) (Af (Yb (RP x) k) (RP x) i) (DJ (HH k) (IA k)) (hU k (RP x)) (Qm (HH k) k (AHK (Z7 x) (Z1 x)))) (RP x) (IA k) (IA j))) (dB (λ k=>EB (AK (No k j) (BD (IA k) (IA j)) (AG (Z1 x)) (AG (Z7 x)) (KC (UD x)) (KA (UD x)) (KC (Lt x)) (AD (λ l=>YN l (Lt x) (BM (Ts x l)) (Ts x l))) (Fk (WW (Kl x)) (No k j) (KD (BN (Ob x k x k k) (Ob x j x j j)) (AX (Ob x k x k k) (Ob x j x j j)) (Xt (Ss x k x k k) (Ss x j x j j)) (KJ x) (Hk x)))) (AF (CL (HH k) (RP x)) (Af (Yb (RP x) k) (RP x) i) (DJ (HH k) (IA k)) (hU k (RP x)) (Qm (HH k) k (AHK (Z7 x) (Z1 x)))) (RP x) (IA k) (IA j)))) (GN (λ k=>EB (IR (AG (Z1 x)) (AG (Z7 x)) (KC (UD x)) (KA (UD x)) (KC (Lt x)) (AD (λ l=>YN l (Lt x) (BM (Ts x l)) (Ts x l))) (Fk (WW (Kl x)) (BD k (HH j)) (KD (BN (hC x k) (Ob x j x j j)) (AX (hC x k) (Ob x j x j j)) (Xt (pkO x k) (Ss x j x j j)) (KJ x) (Hk x)))) (KI k (RP x)) (RP x) k i)))) (AO (And (XF (pkO x i)) (W6 (AZ (hC x i)) (Ix (pkO x i)) (XF (pkO x i)))) (BN (sV (W2 x)) (Sa (pkO x i))) (AX (sV (W2 x)) (Sa (pkO x i))) (AR (Y2 (W2 x)) (Kx (Kw (pkO x i)))))))) := by kernel_rfl
def AVV (x : CZ2) : Prop := CH Try.prog AUI AFV (AH AFV) (xCZ2 x) (AB []) (.tup [.d (IL zSp), .int (CF x.a)]) [] [] []
theorem BIB (x : CZ2) : (AVV x) = (SK (PU (XJ x) (Kl x) (NN (XJ x) (Kl x)) (OX (XJ x) (Kl x)) (BE (Kl x)) (RO (ZC (XJ x)))) (ZC (XJ x)) (QF BQ (Gt (XJ x) (ZC (XJ x)))) (EK (JH (CZ2.t x) (CZ2.f x)) (QF BQ (Gt (XJ x) 4)) JV)) := by kernel_rfl
theorem BCI (l : List Span) (a b x y : Int) : (P5 l a b x y).length = l.length := by unfold P5; rw [eK, eK]
theorem pk1 (x : CZ2) {i j : Nat} (h : Hul) (hij : i <= j) (hw : AIL x i j = true) : pkI x i h (j + 1 - i) = cN (pkI x i h (j - i)) ⟨gLo (sliS x i j), gHi (sliS x i j)⟩ := by
 rw [show j + 1 - i = (j - i) + 1 by omega]
 show (bif AIL x i (i + (j - i)) then _ else _) = _
 rw [show i + (j - i) = j by omega, hw]; rfl
theorem pk0 (x : CZ2) {i j : Nat} (h : Hul) (hij : i <= j) (hw : AIL x i j = false) : pkI x i h (j + 1 - i) = pkI x i h (j - i) := by
 rw [show j + 1 - i = (j - i) + 1 by omega]
 show (bif AIL x i (i + (j - i)) then _ else _) = _
 rw [show i + (j - i) = j by omega, hw]; rfl
theorem BVA (x : CZ2) (h1 : x.a.c.ms.length < 4611686018427387904 /\ x.a.c.ns.length < 4611686018427387904 /\ x.a.z.length < 4611686018427387904) (c0 : CF x.a = 0) : BHN x := by
 have tl := yH c0
 have sl := mV x.a.c
 obtain ⟨_, ⟨n1, n2⟩, _⟩ := IX (Qs c0).1
 have wo : ∀ a b : Nat, (OH (CV x.a) (P5 (Uy x.a) (a : Int) (b : Int) (Z1 x) (Z7 x))).all Du = AIL x a b := λ _ _ => rfl
 have pf : PD x.f (-100000001) = Z1 x := rfl
 have pt : Bn x.t 100000001 = Z7 x := rfl
 have so : ∀ a b : Nat, (IK (b + 1 - a) λ i => gD (Eg x.a.c) (a + i)) = sliS x a b := λ _ _ => rfl
 rw [BMD]<;> delta KH wN rW ZR BG BJ EC MM NO ES ET BW ED AD BU CL AR GK BZ SC DJ EK JH HO KB NL Mv mH LO EJ GW EX HP HN HJ GT GB HC DU GG FE JW GN Ef uS FP FK VV JL FY QC NY EU MP KI AL JO DO LY RV Cm Dh mR Vx SW Jo Jl sV Y2 XJ W2 dB HH IA AHK Y7 AE CR FA BB JA GA AF PX AY AU SX RA AG EM EZ BC FD mI W6 jW AX FC BM CJ AK Gg AN DD tA BH HX BY XN BP CX Bj HZ BN CY BS CE HQ QX FU AV DA AQ Jc EV DW AZ PF tF LX DQ CP FT AS OT ZW FS DM Ji AP ID AT EG CN BX NE CM Ue HD KJ CG IY GP GU OK EN DS FH HV AO DC Cn CK DT BT UR EL FV IP DK CD NF OS DY EP HW EO JY IV DB FN CB FM dC KZ XB Kl UV KC VU TL JB DZ ML Uc Cs BD PH EA MB FQ PZ FR NG IW kA NH VS GJ LQ BE LI Mx DX FO FZ LL KL NC GH SV JU BQ IC LM LB IM YN OI Ct SY Bi EW Ja El IQ HS HB BO EB DH CQ BK JF OB VM GY CS EE Yb EF GM FI II TV BR UD BI KQ BL EY RZ DG Ba MC UL PN HM OJ GC NB DP NP KA PJ DI SE TD VI OC MY DN HG ER Af Ts NN RC PE Lw Kw KO MZ QO MV HT UM QG UG TN JQ HL JI VL RP WA Lb NA TK TG XM LW QP QI JK RS SP Lc NQ JG OY PC KD WP IR VB Mf XF UY OX Ss WF Lz Sh Gl ADH Bz ADE WW Hk TO Po XR Ns aR hU Mh ZC Lt XT QH RJ WZ Fl Au Kq TC TQ UK Mc TH UB Kj UF TW TU Ix MJ ZD UW VG UC Kx Gx Lv Qm Pi UA No Sa Yg Td Fk Fp Fm Ob ZA NX OG Ff Hb SO QN TR Hq TM Bu hC WY PU Xt; simp only [CC, eq_self, implies_true, forall_const, CU, Rz, Ev, WD, Mb, ANB, BHD]; simp only [tl, sl, wo, BCI, pf, pt]
 refine ⟨⟨h1, c0⟩, λ h4 => ?_, λ h4 => ⟨⟨0, ?_, Nat.zero_le _⟩, λ a ha => ⟨λ hlt => ⟨⟨⟨a, a⟩, ?_, by show a < _; omega, rfl, Nat.le_refl _, by show a <= _; omega, λ h => absurd h (Nat.lt_irrefl _)⟩, λ s ⟨s1, s2, s3, s4, s5⟩ => ⟨λ hc => ?_, λ hc => ?_⟩⟩, λ hge => ?_⟩⟩⟩
 ·unfold X2; rw [decide_eq_true h4]; exact ⟨rfl, rfl, rfl⟩
 ·simp; exact ⟨rfl, rfl, rfl⟩
 ·simp [pkI]
 ·have hj : s.j < x.a.c.ms.length := by
   cases hd : decide ((s.j : Int) < x.a.c.ms.length) with
   | false => rw [hd] at hc; cases hc
   | true => have := of_decide_eq_true hd; omega
  have hft : Z7 x >= Z1 x := by
   rw [decide_eq_true (show (s.j : Int) < x.a.c.ms.length by omega)] at hc
   exact of_decide_eq_true hc
  have ew : IntKind.i64.wrap ((s.j : Int) + 1) = ((s.j + 1 : Nat) : Int) := HY (by omega)
  simp only [ew, Int.toNat_natCast, so]
  have bound : ∀ i, i < s.j + 1 - s.i -> (gD (sliS x s.i s.j) i).lo = (gD (Eg x.a.c) (s.i + i)).lo /\ (gD (sliS x s.i s.j) i).hi = (gD (Eg x.a.c) (s.i + i)).hi := λ i hi => by
   unfold sliS; rw [FF _ _ _ hi]; exact ⟨rfl, rfl⟩
  refine ⟨?_, λ hw => ⟨?_, ⟨s.i, s.j + 1⟩, ?_, ⟨s1, s2, by show s.i <= s.j + 1; omega, by show s.j + 1 <= _; omega, λ _ => hft⟩, by show x.a.c.ms.length - (s.j + 1) < _; omega⟩, λ hw => ⟨⟨s.i, s.j + 1⟩, ?_, ⟨s1, s2, by show s.i <= s.j + 1; omega, by show s.j + 1 <= _; omega, λ _ => hft⟩, by show x.a.c.ms.length - (s.j + 1) < _; omega⟩⟩
  ·simp; omega
  ·refine ⟨⟨by omega, by omega, by omega⟩, bound, ⟨by omega, by omega⟩, ⟨by omega, by omega, by omega⟩, bound, by omega, by omega⟩
  ·have e := pk1 x (pkO x s.i) s3 hw
   simp only [e]; simp; rfl
  ·have e := pk0 x (pkO x s.i) s3 hw
   simp only [e]; simp
 ·have e : pkO x (s.i + 1) = pkI x s.i (pkO x s.i) (s.j - s.i) := by
   show (bif decide (Z7 x >= Z1 x) then _ else _) = _
   by_cases hft : Z7 x >= Z1 x
   ·rw [decide_eq_true hft] at hc ⊢
    have hj : s.j = x.a.c.ms.length := by
     cases hd : decide ((s.j : Int) < x.a.c.ms.length) with
     | true => rw [hd] at hc; cases hc
     | false => have := of_decide_eq_false hd; omega
    rw [hj]; rfl
   ·rw [decide_eq_false hft]
    have : s.j = s.i := by
     rcases Nat.lt_or_ge s.i s.j with h | h
     ·exact absurd (s5 h) hft
     ·omega
    rw [this, Nat.sub_self]; rfl
  refine ⟨s.i + 1, ⟨(HY (by omega)).symm, ?_, ?_, ?_⟩, by omega, by omega⟩ <;> rw [e]
 ·obtain rfl : a = x.a.c.ms.length := by omega
  unfold X2; rw [decide_eq_false h4]; exact ⟨rfl, rfl, rfl⟩
theorem BJQ : AJ Try.prog ATG (C_Peak.spec dCZ2) := okT C_Peak (λ (x : CZ2) h => by
 have h1 : x.a.c.ms.length < 4611686018427387904 /\ x.a.c.ns.length < 4611686018427387904 /\ x.a.z.length < 4611686018427387904 := h
 by_cases c0 : CF x.a = 0
 ·have e : C_Peak.val x = .tup [.d (IL (X2 x).1), .int (X2 x).2] := by
   show AVal.tup [.d (IL (W3 x).1), .int (W3 x).2] = _
   unfold W3; rw [c0]; rfl
  rw [e]
  exact Hp (A := BAT x) (L := []) (keep := []) (ren := []) (fz := []) AVG (by kernel_rfl) (AA ABY (AA BTH (AA AEP (AA BDV (AA BMS (AA (BII BTW BVB) (AA ALF (AA ARR AC)))))))) (BVA x h1 c0)
 ·have c0' : (CF x.a == 0) = false := by simpa using c0
  have e : C_Peak.val x = .tup [.d (IL zSp), .int (CF x.a)] := by
   show AVal.tup [.d (IL (W3 x).1), .int (W3 x).2] = _
   unfold W3; rw [c0']; rfl
  rw [e]
  refine Hp (A := AUI) (L := []) (keep := []) (ren := []) (fz := []) AVG (by kernel_rfl) (AA ABG AC) ?_
  show AVV x; rw [BIB]<;> delta BG BJ EC ES ET BW AD BU CL AR SC EK JH EJ GW EX HP HN HJ GT GB HC DU GG FE JW FP FK VV NJ JV DO LY Jf SW XJ AE CR FA BB GA AF PX AY AU SX AG EM EZ QF AX FC BM CJ AK Gg AN DD BH HX BY XN BP CX Bj HZ BN CY BS CE FU AV DA AZ PF CP FT AS Ji AP EG CM Ue IY EN DT EL FV OS EP DB FN CB FM XB Kl ML EA MB FQ VS BE FO FZ LL GH BQ Ja OB VM CS FI BI HM OJ OC MY HG NN KO QO MV JZ RS SP OY PC WP VB OX WF ZC RJ RO VG SK Gt Bu PU; simp only [CC, eq_self, implies_true, forall_const, CU, WD]
  exact ⟨⟨h1, c0⟩, λ h => by simp [c0] at h⟩) _
end Go.Bal
