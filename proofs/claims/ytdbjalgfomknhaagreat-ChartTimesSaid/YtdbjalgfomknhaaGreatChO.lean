/- Package chart: times as a row of one's own. -/
import Derived.Test.YtdbjalgfomknhaaGreatChM
import Derived.Test.YtdbjalgfomknhaaGreatChZd
set_option linter.unusedVariables false
set_option linter.unusedSimpArgs false
namespace Go.Bal
open Go Go.Sym Go.Proofs
def C_narO : Ctr := { ro := [100, 101], α := DkS, xs := λ a => [.bptr 100 0, .d (DE a.l)], L := λ a => dkL a.w, val := λ a => .tup [.own 0 2 0 (OH a.w a.l).length, .bool ((OH a.w a.l).all Du)], keep := λ a => dkK a.w ++ [(0, .live (rowS (OH a.w a.l)))], pre := λ a => [a.l.length = a.w.c.ms.length /\ 1 <= a.w.c.ms.length /\ a.w.c.ms.length <= 40] }
def BGL (a : DkS) : Prop := CH Try.prog (AWB a) Yx (AH Yx) (C_narO.xs a) (AB (C_narO.L a)) (C_narO.val a) (C_narO.keep a) [(0, 2016)] []
theorem BKS (a : DkS) : (BGL a) = (JR (JG (RB a)) (QH (RB a)) (NB (Za a)) (LW (Za a)) (sU (HS (AO (LF a) (bN a) (NM a) (NZ (NR a) (MH a) (BO (DR a)) (BL (DR a)) (BE (DR a)) (BI (DR a)) (λ i=>Ie i a) (TD (PE (DR a)) (MU a) (HL (DR a)) (LF a) (DR a) (DR a) (MC (CQ (DR a)) (λ i=>DG i (DR a)) (DH (DR a)) (λ i=>DI i (DR a)) (Eo a) (λ i=>QG (DR a) i) (JK (DR a)))))) (λ i=>IG (HI (AE (SA i) (AR (cO a) (Fv (DR a))) (XR BQ (LF a) (DR a) (NM a) (NR a) (MH a) (OU a) (OW a) (TO (PA a) (λ j=>BK j (DR a)) (Eo a) (OV a) (MU a) (λ j=>JF (DR a) j) (JU (RB a) (Za a)) (Io (JQ (RB a) (IP (RB a))) (JU (RB a) (Za a)) FW))))) (ZI (TJ (HB 0 (cO a)) (YT (DS 0) (DR a) (BZ 0)) (Oc 0) (Il 0) (Fu (JO (Eo a) 0) (BC i) (Dl YW XL YE 16) (λ j=>IW (AF (SA i) (Yl a) (BD j 0) (LF a) (WT (DR a) (NM a) (NR a) (MH a) (OU a) (OW a) (PA a) (UN a) (CM (Px a) BT (OV a) (MU a) (TF a) (MT a) (λ k=>Yk k a) AI (Xj a (JD j) (λ k=>VK k j (VY a k) (Ho (Xk a) a 0 0) 200000000))))) (Od j a) 50 j 60) (AE (BC i) (Dl YW XL YE 16) (GN (λ j=>IW (AF (SA i) (Yl a) (BD j 0) (LF a) (WT (DR a) (NM a) (NR a) (MH a) (OU a) (OW a) (PA a) (UN a) (CM (Px a) BT (OV a) (MU a) (TF a) (MT a) (λ k=>Yk k a) AI (Xj a (JD j) (λ k=>VK k j (VY a k) (Ho (Xk a) a 0 0) (Ho (BJ (Gv a)) a 0 0)))))) (Od j a) 50 j 60)))) (HI (FX (LF a) (bN a) (NM a) (NR a) (MH a) (OU a) (OW a) (TO (PA a) (λ j=>BK j (DR a)) (Eo a) (OV a) (MU a) (λ j=>JF (DR a) j) (MT a) (Zq (fS a) AI (MT a) (Lj (XV a)))))))) (λ j=>BU (Od j a) (TJ (HB j (cO a)) (YT (DS j) (DR a) (BZ j)) (Oc j) (Il j) (Fu (JO (Eo a) j) (BC i) (Dl (Cb j j) TI (TX j) (Bq j)) (λ k=>WI (AF (SA i) (Yl a) (BD k j) (LF a) (WT (DR a) (NM a) (NR a) (MH a) (OU a) (OW a) (PA a) (UN a) (CM (Px a) BT (OV a) (MU a) (TF a) (MT a) (λ l=>Yk l a) AI (Xj a (PL k j) (λ l=>VK l k (VY a l) (JP l j (BG (VY a l)) (Ho (Xk a) a j j)) (JP l j (BJ (VY a l)) 200000000)))))) (Od k a) k j) (AE (BC i) (Dl (Cb j j) TI (TX j) (Bq j)) (GN (λ k=>WI (AF (SA i) (Yl a) (BD k j) (LF a) (WT (DR a) (NM a) (NR a) (MH a) (OU a) (OW a) (PA a) (UN a) (CM (Px a) BT (OV a) (MU a) (TF a) (MT a) (λ l=>Yk l a) AI (Xj a (PL k j) (λ l=>VK l k (VY a l) (JP l j (BG (VY a l)) (Ho (Xk a) a j j)) (JP l j (BJ (VY a l)) (Ho (BJ (Gv a)) a j j))))))) (Od k a) k j)))) (HI (Ao (LF a) (DR a) (AK (MH a) (OU a) (OW a) (PA a) (UN a) (Px a) BT (OV a) (AK (MU a) (TF a) (MT a) (fS a) AI (MT a) (JU (XV a) j) (LC j) (AD (λ k=>EY k (XV a) (VY a (BV k)))))))))))) (ZI (PO (HI (AO (LF a) (bN a) (NM a) (NZ (NR a) (MH a) (OU a) (OW a) (PA a) (UN a) (λ i=>Ie i a) (xU (OV a) (MU a) (TF a) (MT a) (fS a) AI (Dt a) (Cv a))))) (DP (λ i=>JR (Dt a) (Cv a) (Fs (XV a)) (XZ (BR i) (LF a) (Gv a) (NM a) (NZ (NR a) (MH a) (OU a) (OW a) (PA a) (UN a) (λ j=>Ie j a) (xU (OV a) (MU a) (TF a) (MT a) (AD (λ j=>Nu j a (nrF a i j) (GK (RB a) j))) AI (Dt a) (Cv a)))) (Iy i a)) (λ i=>BU (Iy i a) (Fu (Ff i (ED (XV a))) (MI i (XV a)) (IR (MI i (RB a)) (Vr (BV i) a) (MI i (RB a)) (Vr (BV i) a) (AG (DS i)) (AG (FS (BG (Zc a i i)) (Wk a i))) (Yz (AG (FS (BJ (Zc a i i)) (Xf a i))) (Sw (Hm a a i) a) (AF (AD (λ j=>EY j (Hm a a i) (nrF a i j))) AI (Pk a (Hm a a i)) (CN (DS i)) (DM (DS i) (ED (Hm a a i)))))) (λ j=>WI (AO (Dt a) (Cv a) (Fs (XV a)) (XZ (BD j i) (LF a) (Gv a) (NM a) (NZ (NR a) (MH a) (OU a) (OW a) (PA a) (UN a) (λ k=>Ie k a) (AK (OV a) (MU a) (TF a) (Pk a (Hm a a i)) (AD (λ k=>Nu k a (nrF a j k) (upd1 (Hm a a i) (DS i) (Cm (FS (BG (Zc a i i)) (Wk a i)) (FS (BJ (Zc a i i)) (Xf a i))) k))) AI (MT a) (Dt a) (Cv a))))) (Iy j a) j i) (DP (λ j=>And (XZ (AR (RD a j) (ME (ED (XV a)))) (LF a) (Gv a) (NM a) (NZ (NR a) (MH a) (OU a) (OW a) (PA a) (UN a) (λ k=>Ie k a) (xU (OV a) (MU a) (TF a) (MT a) (AD (λ k=>Nu k a (qT a j k) (nrF a i k))) AI (Dt a) (Cv a)))) (Iy j a)) (λ j=>GM (Iy j a) (As (RD a j)) (sQ (WB (D0 a j) (RB a)) (Vr (Hx a j) a) (WB (RD a j) (XV a)) (AF (Vr (Hx a j) a) (WB (RD a j) (XV a)) (AG (RD a j)) (AG (GI (BG (qT a j (Hx a j))) (Xf a (Xv a j)))) (Yz (AG (GI (BJ (qT a j (Hx a j))) (Wk a (Xv a j)))) (Sw (PP a j) a) (AF (AD (λ k=>EY k (PP a j) (qT a j k))) AI (Pk a (PP a j)) (CN (RD a j)) (DM (RD a j) (ED (PP a j))))))) (GN (λ k=>WI (XZ (AR (RD a k) (PV (RD a j))) (LF a) (Gv a) (NM a) (NZ (NR a) (MH a) (OU a) (OW a) (PA a) (UN a) (λ l=>Ie l a) (AK (OV a) (MU a) (TF a) (Pk a (PP a j)) (AD (λ l=>Nu l a (qT a k l) (upd1 (PP a j) (RD a j) (Cm (GI (BG (qT a j (Hx a j))) (Xf a (Xv a j))) (GI (BJ (qT a j (Hx a j))) (Wk a (Xv a j)))) l))) AI (MT a) (Dt a) (Cv a)))) (Iy k a) k j)) (AO (VW (QF (Sw (PP a j) a) (AF (AD (λ k=>EY k (PP a j) (qT a j k))) (Pk a (PP a j)) (AD (λ k=>Nu k a (qT a j k) (GK (PP a j) k))) (DT (ED (PP a j))) IH))) AI (Sw (cR a a) a) (XR (Hh (UY (cR a a)) (PP a j)) (LF a) (DR a) (NM a) (NR a) (MH a) (OU a) (OW a) (TO (PA a) (λ k=>BK k (DR a)) (Eo a) (OV a) (MU a) (λ k=>JF (DR a) k) (Sw (cR a a) a) (AD (λ k=>EY k (cR a a) (qT a j k))))))))))))))) := by kernel_rfl
theorem BUR (a : DkS) (h : a.l.length = a.w.c.ms.length /\ 1 <= a.w.c.ms.length /\ a.w.c.ms.length <= 40) : BGL a := by
 obtain ⟨hl, h1, h2⟩ := h
 have e1 : wr ((a.w.c.ms.length : Int) - 1) = ((a.w.c.ms.length - 1 : Nat) : Int) := by unfold wr; rw [Bc (by omega) (by omega)]; omega
 have e2 : IntKind.i64.wrap ((a.w.c.ms.length : Int) - 1) = ((a.w.c.ms.length - 1 : Nat) : Int) := e1
 have gl : (gapL a.w).length = a.w.c.ms.length - 1 := rng_length _ _
 have gg : ∀ {j : Nat}, j < a.w.c.ms.length - 1 -> gD (gapL a.w) j = HR a.w j := λ hj => FF _ _ _ hj
 have lo : ∀ k, (HR a.w k).lo = IntKind.i64.wrap (a.w.c.p.lo * IntKind.i64.wrap ((gD a.w.c.ms (k + 1)).pl - (gD a.w.c.ms k).pl)) := λ _ => rfl
 have hi1 : ∀ k, a.w.sp k = true -> (HR a.w k).hi = 200000000 := λ k h => by unfold HR; rw [h]; rfl
 have hi0 : ∀ k, a.w.sp k = false -> (HR a.w k).hi = IntKind.i64.wrap (a.w.c.p.hi * IntKind.i64.wrap ((gD a.w.c.ms (k + 1)).pl - (gD a.w.c.ms k).pl)) := λ k h => by unfold HR; rw [h]; rfl
 have ws : ∀ {k : Nat}, k < 40 -> IntKind.i64.wrap ((k : Int) + 1) = ((k + 1 : Nat) : Int) := λ h => HY (by omega)
 rw [BKS]<;> delta KH rW ZR BG BJ EC MM NO Hc ES ET BW ED AD BU CL AR GK BZ SC DJ EK JH HO KB NL LO EJ GW EX HP HN HJ GT GB HC DU GG FE JW GN IH Ef uS JL FY QC NY EU MP KI YM AL JO Ri Cm Rm Fx En jV RB Eo AE CR FA BB GA AF AY DR AU RA AG EM sU EZ BC FD Nc QF sQ jW Zq yT AX FC BM CJ AK AN DD BH BY BP CX BN CY BS CE HQ QX FU AV DA AQ Jc EV DW AZ XZ xU DQ CP FT AS OT ZW FS DM AP ID AT BV EG CN BX NE GI CM HD CG GP GU OK DS DF FH HV AO AI DC Cn CK DT BT UR EL UU FV IP CD NF EP HW EO JY IV DB FN FM KZ UV XV KC HF VU PV TL JB DZ ML Cs BD PH EA FQ PZ FR NG IW Y3 NH GJ LQ BE LI DX FO FZ KL NC JS GH SV JU BQ IC LM LB IM YN OI Ct AOI PI SY Bi dL El HS HB BO EB DH CQ BK JF GY CS EE ME GM AFH GF II TV BR BI KQ BL HE OF EY RZ DG Ba MC UL FW PN FX MT NB DP Jx KA PJ DI SE TD VI RD YU QQ LF MG PT UZ MU PM HI MH QK RN VY JP Es PE Lw PR KO LC UM QG UG TN JQ HL VL NR KS WA Jp SN WT NA TK PP NM LW SU JD IG RE Oz JK OV OW MI SA PL Dd ZI JR JG PA IR aI ZM UY OU UN Gk As Sv PO Cv TF XI Yo Ao Dt Av TO WB D0 Hd Lj TI XR nO Gv cO TX QH Iy Ie Hx Yz XL YE bF Wu Fs Px Qb VW NZ Ho VK YW Od Pk Hm WI TJ YT Cb Sw Xk Fv Za Yl Bq Nu Wk Ff Xv Vr Xf bN Dl Il Yk Fu Xj Zc Hh cR fS Oc Io; simp only [CC, eq_self, implies_true, forall_const]; simp only [e1, e2, gl, hl]
 refine ⟨by omega, ⟨⟨default, trivial⟩, ⟨λ h0 => ?_, λ h0 => ⟨default, by omega⟩⟩, λ k hk => ⟨λ hlt => ?_, λ hge => ⟨default, by omega, Nat.le_refl _, λ j hj => by rw [gg hj]; exact ⟨rfl, rfl⟩⟩⟩⟩, ⟨default, trivial⟩, ⟨0, ⟨rfl, λ i hi => ?_⟩, Nat.zero_le _⟩, λ k hk => ⟨λ hlt => ?_, λ hge => ⟨⟨0, ⟨?_, λ i hi => ?_⟩, Nat.zero_le _⟩, λ j hj => ⟨λ hlt => ?_, λ hlt => ?_⟩⟩⟩⟩
 ·simp only [ws (show (0 : Nat) < 40 by omega), Int.toNat_natCast]
  refine ⟨by omega, by omega, by omega, λ h => ⟨by simp, 1, ⟨rfl, rfl, rfl, λ i hi => ?_⟩, by omega, by omega⟩, λ h => ⟨by simp, 1, ⟨rfl, rfl, rfl, λ i hi => ?_⟩, by omega, by omega⟩⟩
  ·obtain rfl : i = 0 := by omega
   exact ⟨lo 0, hi1 0 h⟩
  ·obtain rfl : i = 0 := by omega
   exact ⟨lo 0, hi0 0 h⟩
 ·simp only [ws (show k < 40 by omega), Int.toNat_natCast]
  refine ⟨by omega, by omega, by omega, λ h => ⟨⟨by omega, (λ h => by cases h), by omega, by omega⟩, k + 1, ⟨rfl, rfl, rfl, λ i hi => ?_⟩, by omega, by omega⟩, λ h => ⟨⟨by omega, (λ h => by cases h), by omega, by omega⟩, k + 1, ⟨rfl, rfl, rfl, λ i hi => ?_⟩, by omega, by omega⟩⟩
  ·by_cases q : i < k
   ·simp only [q, decide_true, cond_true, and_self]
   ·obtain rfl : i = k := by omega
    simp only [q, decide_false, cond_false]
    exact ⟨lo i, hi1 i h⟩
  ·by_cases q : i < k
   ·simp only [q, decide_true, cond_true, and_self]
   ·obtain rfl : i = k := by omega
    simp only [q, decide_false, cond_false]
    exact ⟨lo i, hi0 i h⟩
 ·by_cases q : i = 0
  ·subst q; exact ⟨rfl, rfl⟩
  ·have : ¬ i <= 0 := by omega
   simp only [nrF, this, decide_false, cond_false, and_self]
 ·simp only [ws (show k < 40 by omega)]
  refine ⟨by omega, ⟨by omega, by omega, by omega, by omega, λ i hi => by rw [FF _ _ _ hi]; exact ⟨rfl, rfl⟩, by omega, by omega⟩, k + 1, ⟨rfl, λ i hi => ?_⟩, by omega, by omega⟩
  have e := AOA a (k := k) (i := i) (by omega) (by omega)
  rw [gg (by omega), e, hl]; exact ⟨rfl, rfl⟩
 ·rw [Bc (by omega) (by omega)]; omega
 ·obtain rfl : k = a.w.c.ms.length - 1 := by omega
  have q1 : decide (i <= a.w.c.ms.length - 1) = true := by rw [decide_eq_true_eq]; omega
  unfold qT nrF; rw [q1]
  by_cases q : a.w.c.ms.length - 1 - 0 <= i
  ·have q2 : a.w.c.ms.length - 1 - i = 0 := by omega
   have q3 : i = a.w.c.ms.length - 1 := by omega
   simp only [q, decide_true, cond_true, q2, bkM]; rw [<- q3]; exact ⟨rfl, rfl⟩
  ·simp only [q, decide_false, cond_false, cond_true, and_self]
 ·have g0 : (a.w.c.ms.length : Int) - 2 - j = ((a.w.c.ms.length - 2 - j : Nat) : Int) := by omega
  have g1 : IntKind.i64.wrap (((a.w.c.ms.length - 2 - j : Nat) : Int) + 1) = ((a.w.c.ms.length - 2 - j + 1 : Nat) : Int) := ws (by omega)
  simp only [g0, g1, Int.toNat_natCast]
  refine ⟨⟨by omega, by omega, by omega, by omega, by omega, by omega, λ i hi => by rw [FF _ _ _ hi]; exact ⟨rfl, rfl⟩, by omega, by omega⟩, j + 1, ⟨?_, λ i hi => ?_⟩, by omega, by omega⟩
  ·rw [Bc (by omega) (by omega)]; omega
  ·have e := APF a (j := j) (i := i) hl (by omega) (by omega)
   rw [gg (by omega), e, hl]; exact ⟨rfl, rfl⟩
 ·have q : j = a.w.c.ms.length - 1 := by omega
  have eq1 : ∀ i, i < a.w.c.ms.length -> gD (OH a.w a.l) i = qT a j i := λ i hi => by
   unfold OH; rw [FF _ _ _ (by omega), hl]
   have q2 : decide (a.w.c.ms.length - 1 - j <= i) = true := by rw [decide_eq_true_eq]; omega
   unfold qT; rw [q2]; rfl
  have nl : (OH a.w a.l).length = a.w.c.ms.length := by unfold OH; rw [rng_length, hl]
  refine ⟨⟨λ i hi => by rw [FF _ _ _ hi]; exact ⟨rfl, rfl⟩, λ i hi => by rw [FF _ _ _ hi]; exact ⟨rfl, rfl⟩, by omega⟩, nl, ?_, ?_⟩
  ·congr 1
   exact AQS (by rw [nl, rng_length]) λ i hi => by rw [eq1 i (by omega), FF _ _ _ (by omega)]
  ·exact ⟨nl, λ i hi => by rw [eq1 i (by omega)]; exact ⟨rfl, rfl⟩⟩
theorem BMC : AJ Try.prog YX (C_narO.spec dDkS) := XP C_narO AWB [(0, 2016)] [] W8 (λ _ => by kernel_rfl) (λ _ => AA AQY (AA zH (AA AXD (AA BFU AC)))) (λ a h => BUR a h) (λ a => AOJ Kn (BAZ a) rfl rfl AC lP (by kernel_rfl) (by kernel_rfl)) _
def C_timO : Ctr := { ro := [100, 101], α := Dk, xs := λ _ => [.bptr 100 0], L := λ w => dkL w, val := λ w => .tup [.own 0 2 0 (OH w (XD w.c)).length, .bool ((OH w (XD w.c)).all Du)], keep := λ w => dkK w ++ [(0, .live (rowS (OH w (XD w.c))))], pre := λ w => [(1 <= w.c.ms.length /\ w.c.ms.length <= 40 /\ nsIn w.c) /\ ZV w.c = true] }
def BFI : Ann := { ann 19 [(AIH, C_all.spec Ze), (xN, C_not.spec Ze), (YX, C_narO.spec dDkS)] with E := [100, 101] }
def BHR (w : Dk) : Prop := CH Try.prog BFI zG (AH zG) (C_timO.xs w) (AB (C_timO.L w)) (C_timO.val w) (C_timO.keep w) [(0, 5048)] []
theorem BJH (w : Dk) : (BHR w) = (HG (EW (LZ w) (LR w) (NT w) (OD w) (OE w) (NX (AL w) w (AK (Sp w) (LZ w) (LR w) (NT w) (OD w) (OE w) (Tq w) (cY w) (OG (AL w) w (iX w) (fV w))))) (not (Mr (DK (AL w)))) JV (AO (EW (LZ w) (LR w) (NT w) (OD w) (OE w) (NX (AL w) w (AK (Sp w) (LZ w) (LR w) (NT w) (OD w) (OE w) (Tq w) (cY w) (OG (AL w) w (AE (iX w) (fV w) (EU (λ i=>Cx (TL (AL w) i) i (AL w)))) (DC (JG (Bg w)) (λ i=>PJ i (IP (Bg w)) (Bg w)) (LZ w) (LR w) (NT w) (OD w) (OE w) (BO (AL w)) (Hb (AL w) (LQ w) (GJ w) (Sp w) (CM (LZ w) (LR w) (NT w) (OD w) (OE w) (Tq w) (λ i=>DG i (AL w)) (DH (AL w)) (QN (AL w) (λ i=>KZ i w) BT (JI (AL w)) (GJ w) (JK (AL w)) (LM (NG (Bg w)) (AL w)) (iX w) (fV w))))))))) AI (II (OH w (gF w)) (XT (AL w) w (Bg w))) (AK (Hh (UY (OH w (gF w))) (XT (AL w) w (Bg w))) (LZ w) (LR w) (NT w) (OD w) (OE w) (Qa w) (JS (AL w)) (WZ (CG (AL w)) (λ i=>BK i (AL w)) w (Xe w) (λ i=>JF (AL w) i) (II (OH w (gF w)) (XT (AL w) w (Bg w))) (JQ (OH w (gF w)) (XT (AL w) w (Bg w))))))) := by kernel_rfl
theorem AVD : AJ Try.prog Up (C_timO.spec Ze) := XP C_timO (λ _ => BFI) [(0, 5048)] [] ANS (λ _ => by kernel_rfl) (λ _ => AA AFW (AA ASY (AA BMC AC))) (λ (w : Dk) h => by
 obtain ⟨⟨h1, h2, h3⟩, h4⟩ : (1 <= w.c.ms.length /\ w.c.ms.length <= 40 /\ nsIn w.c) /\ ZV w.c = true := h
 show BHR w; rw [BJH]<;> delta KH BG BJ EC ES ET BW ED AD BU CL AR GK BZ DJ EK HO KB EJ GW EX HP HN HJ GT GB HC DU GG FE JW Ef uS JL JV NY EU MP AL JO Mr AE CR FA BB GA AF AY AU RA AG EM EZ BC FD AX FC BM CJ AK AN DD BH HX BY BP CX HZ BN CY BS CE QX FU AV DA AQ Jc EV DW AZ LX DQ CP FT AS OT ZW DM AP ID AT EG CN BX NE CM HD CG GP OK FH HV AO AI DC Cn CK BT UR EL FV IP DK CD NF EP HW JY DB FN FM dC KZ UV HF VU TL Cs PH EA FQ PZ NG NH GJ LQ BE LI DX FO FZ KL NC JS GH SV JU IC LM OI SY Bi EW BO DH CQ BK JF GY CS EE II TV BI BL EY RZ DG MC UL PN Jx PJ DI SE VI DN HG LR bV RC PE UM QG UG TN JQ HL JI VL LZ WA Lb TK OD QP JK NT OE Lc NQ JG NU UY Bg TO XT WZ Au UW Qa Sp NX OG Tq Xe Hb QN Cx Hh fV iX cY gF; simp only [CC, eq_self, implies_true, forall_const, CU, Rz, h4]
 exact ⟨⟨h1, h2⟩, (λ h => by cases h), ⟨h1, h2, h3⟩, IS _, h1, h2⟩) (λ _ => YS rfl rfl) _
def dIs1 : List AVal -> Heap -> Option (List Int × List (Nat × Nat) × List Nat)
 | [y], H => match fM y H with
  | some (l, f) => some (l, [], f)
  | none => none
 | _, _ => none
def C_cloI : Ctr := { α := List Int, xs := λ l => [.d (DV l)], val := λ l => .d (DV l), keep := λ _ => [], pre := λ l => [l.length < 4611686018427387904] }
def BAL : Ann := ann 8 []
def BAA (l : List Int) : Prop := CH Try.prog BAL lM (AH lM) (C_cloI.xs l) (AB []) (C_cloI.val l) (C_cloI.keep l) [] []
theorem BNE (l : List Int) : (BAA l) = (Fg (PI 0 (FP l)) (RE (ZM AI Am) (And IH (IY 0 l Am)) (Hz (FP l)) (QK (FP l) 9223372036854775807) (En (BV (FP l)) 8)) (EN l (BV (FP l))) (λ i=>SM i l l (ZE i))) := by kernel_rfl
end Go.Bal
