/- Package chart: Holds. -/
import Derived.Test.YtdbjalgfomknhaaGreatChL
set_option linter.unusedVariables false
set_option linter.unusedSimpArgs false
namespace Go.Bal
open Go Go.Sym Go.Proofs
structure CT where
 c : Cht
 t : Tru
def BVU : AVal -> Heap -> Option (Tru × List Nat)
 | .d (.agg [.list _ n f _, .list _ m g _, .list _ k h _]), _ => some (⟨IK n λ i => HK (f i), IK m λ i => HK (g i), IK k λ i => HK (h i)⟩, [])
 | .agg [x, y, z], H => match fM x H, fM y H, fM z H with
  | some (l, f1), some (m, f2), some (k, f3) => some (⟨l, m, k⟩, f1 ++ f2 ++ f3)
  | _, _, _ => none
 | _, _ => none
def dCT : List AVal -> Heap -> Option (CT × List (Nat × Nat) × List Nat)
 | [x, y], H => match nM x H, BVU y H with
  | some (c, f), some (t, e) => some (⟨c, t⟩, [], f ++ e)
  | _, _ => none
 | _, _ => none
def xCT (x : CT) : List AVal := [.d (Dj x.c), .d (eTru x.t)]
def fQ (x : CT) : CZ := ⟨x.c, x.t.z⟩
def hd1 (x : CT) (i : Nat) : Bool := KT (gD x.t.t i) (gD (XD x.c) i).lo (gD (XD x.c) i).hi && KT (gD x.t.s i) (Dv x.c i).lo (Dv x.c i).hi
def hdN (x : CT) : Nat -> Bool
 | 0 => true
 | k + 1 => hdN x k && hd1 x k
def zN (x : CT) (g : Nat) : Bool := KT (wr (gD x.t.t (g + 1) - gD x.t.t g)) (HR (CV (fQ x)) g).lo (HR (CV (fQ x)) g).hi
def hgN (x : CT) : Nat -> Bool
 | 0 => true
 | k + 1 => hgN x k && zN x k
def inT (l : List Int) : Bool := l.all λ a => KT a (-100000000) 100000000
def hldO (x : CT) : Bool × Int := bif decide (x.t.t.length = x.c.ms.length /\ x.t.s.length = x.c.ms.length) then bif inT x.t.t then (hdN x x.c.ms.length && hgN x (x.c.ms.length - 1), 0) else (false, 4) else (false, 2)
def Bm (x : CT) : Bool × Int := bif MO (fQ x) == 0 then hldO x else (false, MO (fQ x))
def C_hold : Ctr := { α := CT, xs := xCT, val := λ x => .tup [.bool (Bm x).1, .int (Bm x).2], keep := λ _ => [], pre := λ x => [(x.c.ms.length < 4611686018427387904 /\ x.c.ns.length < 4611686018427387904 /\ x.t.z.length < 4611686018427387904) /\ x.t.t.length < 4611686018427387904 /\ x.t.s.length < 4611686018427387904] }
def hdH (x : CT) : List (Nat × HCell) := [(201, .live (.box [.d (DV x.t.t), .d (DV x.t.s), .d (DV x.t.z)])), (202, .live (.box [.d (.v (.bool false))])), (203, .live (.box [.d (.v (.int .i64 0))])), (204, .live (dkB (CV (fQ x)) 205)), (205, .live (dkM (CV (fQ x))))]
def hdS : List (Nat × AVal) := [(3, .bptr 201 0), (4, .bptr 202 0), (5, .bptr 203 0), (6, .bptr 204 0)]
def hd11 (x : CT) : Shape := { α := Nat, dflt := 0, T := λ k => ⟨hdS ++ [(9, .d (DE (XD x.c))), (48, .int x.c.ms.length), (49, .int k)], hdH x⟩, inv := λ k => k <= x.c.ms.length /\ hdN x k = true, meas := λ k => x.c.ms.length - k, first := [(201, 1016), (202, 1032), (203, 1048), (204, 2048), (205, 2049)] }
def hgS (x : CT) (l k : Nat) : List (Nat × AVal) := [(0, .fn (.yield l) [] []), (1, .bptr 18016 0), (12, .int (wr ((x.c.ms.length : Int) - 1))), (13, .int k)]
def hg1s (x : CT) (l : Nat) : Shape := { α := Nat, dflt := 0, T := λ k => ⟨hgS x l k, hdH x ++ [(18016, .live (.box [.bptr 204 0]))]⟩, inv := λ k => k <= x.c.ms.length - 1 /\ hgN x k = true, meas := λ k => 50 - k }
noncomputable def BOH (x : CT) : IterAnn := { fn := Un, code := AH Un, live := [3, 4, 5], ann := { base := λ id => 100000 + 1000 * (id + 1), Γ := Sym.look [], E := [201, 202, 203, 204, 205, 18016], n := 66, inner := λ gs id => if id = 1 then some [hg1s x (gs.getD 0 0)] else none } }
noncomputable def AZS (x : CT) : Ann := { ann 108 [(Jy, C_beg.spec pZ), (n_eI, C4Ih.spec d4Ih), (xN, C_not.spec Ze), (nF, C_stg.spec dDkI), (sA, vS), (H3, C_gaps.spec Ze)] with iter := λ g => if g = Kn then some (BOH x) else none, loops := λ id => if id = 11 then some [hd11 x] else none }
def AZO (x : CT) : Prop := CH Try.prog (AZS x) yS (AH yS) (xCT x) (AB []) (.tup [.bool (Bm x).1, .int (Bm x).2]) [] [] []
abbrev CI:=CT.c
abbrev So a:=sY (Bm a)
abbrev Hu a b c d:=DZ a (EF (So b)) c d
abbrev Fd a:=sS (Bm a)
abbrev Yv a:=IQ (Fd a)
abbrev YO a:=BB (CI a)
abbrev Mj a:=RV (fQ a)
abbrev GS a:=JA (fQ a)
abbrev Ac a:=Tru.z (CT.t a)
abbrev Jv a:=PG (Ac a)
abbrev Bl a:=Tru.s (CT.t a)
abbrev Ml a b:=WU a (Bl b)
abbrev Ls a:=PG (Bl a)
abbrev QZ a:=Tru.t (CT.t a)
abbrev Ms a:=MK (QZ a)
abbrev Ka a:=PG (QZ a)
abbrev YA a b:=FK (QZ a) b
abbrev jI a:=FP (QZ a)
abbrev Wc a:=XD (CI a)
abbrev cG a b:=IF a (not b)
abbrev Ko a b:=HF (not a) b
abbrev Ng a:=QY (Ac a)
abbrev AIN a b:=LX (CI a) (CI b)
abbrev RW a:=tA (AIN a a) (Ng a)
abbrev Jm a:=AIN a a
abbrev Fj a b:=SW (Jm a) (Ng b)
abbrev Ta a b:=NJ (LP a) (IV (CI b))
abbrev Wh a:=BO (CI a)
attribute [go_sem] CI So Hu Fd Yv YO Mj GS Ac Jv Bl Ml Ls QZ Ms Ka YA jI Wc cG Ko Ng AIN RW Jm Fj Ta Wh
theorem BLR (x : CT) : (AZO x) = (And (QS (CI x) (RJ (CI x) (Wh x) (BL (CI x)) (BE (CI x)) (CB (Ng x) (Ac x)) (λ i=>LS i (Ng x) (Ac x)) (VB (DQ (CI x)) (CI x) (FI (Ng x))) (KP (Jm x)))) (Hu (JZ (RX (Fj x x))) x (AR (Fd x) (RX (Fj x x))) (Hu (IF (Ta (QZ x) x) (Ta (Bl x) x)) x (AR (Fd x) 2) (JR (WS (QZ x)) (CW (QY (QZ x)) (QZ x)) (FI (QY (QZ x))) IH (Hu (not (hd92 (QY (QZ x)) (λ i=>KT i (-100000000) 100000000))) x (AR (Fd x) 4) (HU (AQ (RW x)) (AT (RW x)) (AF (AP (RW x)) (AS (RW x)) (AV (RW x)) (BO (RW x)) (WY (RW x) (LQ (RV (Fj x x))) (GJ (RV (Fj x x))) (ZD (RW x) (CQ (RW x)) (λ i=>DG i (RW x)) (DH (RW x)) (QN (RW x) (λ i=>KZ i (RV (Fj x x))) BT (JI (RW x)) (GJ (RV (Fj x x))) (JK (RW x)) (QP (RW x)) (NQ (RW x)) (EU (λ i=>Cx (TL (RW x) i) i (RW x))))))) (GN (λ i=>SD (And (II (Wc x) (bV (RW x))) (CM (JQ (Wc x) (bV (RW x))) (WW (CI x)) (BR i) (Ka x) (Ms x) (Ls x) (λ j=>Ml j x) (Jv x) (AK (MK (Ac x)) Az BQ (TH (GS x) (RW x)) (UC (GS x) (RW x)) (TU (GS x) (RW x)) (UB (GS x) (RW x)) (TC (GS x) (RW x)) (SO (TQ (GS x) (RW x)) (λ j=>UA j (GS x) (RW x) j j) (UK (GS x) (RW x)) (λ j=>DW j (GS x) (TM (GS x) j (RW x) j j j j)) (AD (λ j=>ZA j (Mj x) j (JO (RV (Fj x x)) j))) BT (λ j=>TW (GS x) j (RW x) j) (λ j=>UF (Mj x) j (RV (Fj x x)) j) (λ j=>TR (GS x) j (RW x) j j j))))) i (YO x) (CK (hdN x i)))) (AD (λ i=>BU (GZ i (YO x) (CK (hdN x i))) (EK (HB i (IV (CI x))) (HU (IM i) (AQ (GS x)) (AF (AT (GS x)) (AP (GS x)) (AS (GS x)) (AV (GS x)) (NX (GS x) (Mj x) (MJ (HL (GS x)) (AQ (GS x)) (GS x) (AP (GS x)) (AS (GS x)) (CQ (GS x)) (DN (GS x)) (OG (GS x) (Mj x) (CN (BZ i)) (DM (BZ i) (DQ (GS x))))))) (And (MW i (QZ x)) (QF (MI i (Wc x)) (Ko (not (WX (QZ x) i (PT (Wc x) i) (RN (Wc x) i))) (MW i (Bl x))))) (Hu (cG (not (WX (QZ x) i (PT (Wc x) i) (RN (Wc x) i))) (WX (Bl x) i (Ai (DK (GS x)) i) (Bt (DK (GS x)) i))) x (Yv x) (GN (λ j=>MA (And (KC (Wc x)) (CM (KA (Wc x)) (WW (CI x)) (BD j i) (Ka x) (Ms x) (Ls x) (λ k=>Ml k x) (Jv x) (KD (MK (Ac x)) Az BQ (GS x) (Mj x)))) j (YO x) (CK (hdN x j)) i)))) (HS (AO (AQ (GS x)) (AT (GS x)) (AP (GS x)) (NZ (AS (GS x)) (AV (GS x)) (BO (GS x)) (BL (GS x)) (BE (GS x)) (BI (GS x)) (λ j=>KZ j (Mj x)) (HT (PE (GS x)) (GJ (Mj x)) (HL (GS x)) (GS x) (MC (CQ (GS x)) (λ j=>DG j (GS x)) (DH (GS x)) (λ j=>DI j (GS x)) (Mj x) (λ j=>QG (GS x) j) (JK (GS x)))))) (λ j=>DP (λ k=>SD (CM (SA j) (AR (Hf (CI x)) (Fv (GS x))) (BR k) (Ka x) (Ms x) (Ls x) (λ l=>Ml l x) (Jv x) (KD (MK (Ac x)) Az BQ (GS x) (Mj x))) k (OF (YO x)) (CK (hgN x k))) (λ k=>BU (GZ k (OF (YO x)) (CK (hgN x k))) (TJ (HB k (Hf (CI x))) (YT (DS k) (GS x) (BZ k)) (Oc k) (Il k) (KS (JO (Mj x) k) (BC j) (XI (DS k) (jI x) (BZ k)) (Hu (Cr (GI (YA x (El k)) (YA x k)) (nO (Dd (GS x)) (GS x) k k) 200000000) x (Yv x) (GN (λ l=>ZN (CM (SA j) (AG (Hf (CI x))) (BD l k) (Ka x) (Ms x) (Ls x) (λ m=>Ml m x) (Jv x) (KD (MK (Ac x)) Az BQ (GS x) (Mj x))) l (OF (YO x)) (CK (hgN x l)) 50 l k))) (AE (BC j) (XI (DS k) (jI x) (BZ k)) (Hu (Cr (GI (YA x (El k)) (YA x k)) (nO (Dd (GS x)) (GS x) k k) (nO (BJ (EX (GS x))) (GS x) k k)) x (Yv x) (GN (λ l=>ZN (CM (SA j) (AG (Hf (CI x))) (BD l k) (Ka x) (Ms x) (Ls x) (λ m=>Ml m x) (Jv x) (KD (MK (Ac x)) Az BQ (GS x) (Mj x))) l (OF (YO x)) (CK (hgN x l)) 50 l k))))) (And (CK (So x)) (Yv x))))))))))))))) := by kernel_rfl
def AWH : Ann := ann 108 [(Jy, C_begX.spec pZ)]
def AUU (x : CT) : Prop := CH Try.prog AWH yS (AH yS) (xCT x) (AB []) (.tup [.bool false, .int (MO (fQ x))]) [] [] []
theorem BDL (x : CT) : (AUU x) = (And (QS (CI x) (RJ (CI x) (Wh x) (BL (CI x)) (BE (CI x)) (CB (Ng x) (Ac x)) (λ i=>LS i (Ng x) (Ac x)) (VB (DQ (CI x)) (CI x) (FI (Ng x))) (RO (PW (Jm x))))) (DZ (JZ (RX (Fj x x))) Az (AR (RX (fQ x)) (RX (Fj x x))) (DZ (IF (Ta (QZ x) x) (Ta (Bl x) x)) Az (AR (RX (fQ x)) 2) JV))) := by kernel_rfl
theorem BDB (x : CT) : CZ.mk x.c x.t.z = fQ x := rfl
theorem ANP (x : CT) : (fQ x).c = x.c := rfl
theorem AFE {f g : Nat -> Bool} (hf : ∀ k, f (k + 1) = (f k && g k)) : ∀ {n k : Nat}, k < n -> g k = false -> f n = false
 | 0, k, h, _ => absurd h (Nat.not_lt_zero _)
 | n + 1, k, h, hg => by
  rw [hf]
  by_cases e : k = n
  ·subst e; rw [hg, Bool.and_false]
  ·rw [AFE hf (show k < n by omega) hg]; rfl
theorem BUN (x : CT) (h1 : (x.c.ms.length < 4611686018427387904 /\ x.c.ns.length < 4611686018427387904 /\ x.t.z.length < 4611686018427387904) /\ x.t.t.length < 4611686018427387904 /\ x.t.s.length < 4611686018427387904) (h0 : AM x.c = 0) : AZO x := by
 have hl := IX h0
 have hs := Qu h0
 rw [BLR]<;> delta KH wN ZR BG BJ EC MM NO Hc ES ET BW ED AD BU CL AR GK BZ SC DJ EK JH HO KB NL LO EJ GW EX HP HN HJ GT GB HC DU GG FE JW GN IH FP FK VV hd92 JL PW FY NJ NY EU MP KI AL JO RX RV Ri SW sY sS CI AE CR FA BB JA GA AF PX AY AU RA AG EM EZ BC FD QF AX FC BM CJ AK AN DD tA BH HX BY BP CX Uf HZ BN CY BS CE HQ QX FU AV DA AQ Ac EV DW QY AZ LX DQ CP FT AS OT ZW FS DM AP ID AT GS EG CN BX NE GI CM HD CG IY GP GU OK EN DS FH HV AO DC Cn CK DT BT UR EL Ng FV DK CD NF EP HW EO JY IV DB FN CB FM KZ AIN UV KC QZ HF VU PV TL JB DZ ML Cs BD PH EA PG MB FQ PZ FR IW Y3 NH GJ LQ BE Jm LI RW Mx DX FO FZ LL LP KL Ki NC GH TZ SV JU BQ IC LM LB IM YN OI Ct Bl PI SY Bi dL El IQ HS HB BO EB DH CQ BK JF SM WU LS GY CS EE EF GZ FI IF II TV KP BR BI KQ BL OF Gz EY RZ DG Ba MK MC UL HU PN HM YO DP CW KA PJ DI SE TD VI PT UZ WX DN RN bV RC PE PR KO HT UM QG UG TN JQ HL JI VL KS JZ Cr TK TG XM MW QP Fd JK SP So MI SA Dd NQ JR YA KD NU aI VB ZN XI Ah Yo WS Ao Gl MA Bz WW TO Mj XR nO Ns Ai Mh RJ WZ QS Au Kq TC TQ UK Bt Ms Ls Az Mc Fj TH UB Ka UF TW Ml TU Jv NZ MJ ZD UW UC Hu SD Hf Gx Lv TJ YT UA Yv Fv Td ZA NX OG Wc Ta Ko Hb Il SO QN TR Hq TM Wh Cx cG Oc WY jI; simp only [CC, eq_self, implies_true, forall_const, CU, Ev, BDB, ANP, Mb, Rz]
 have nl := IS x.c
 have wn : wr ((x.c.ms.length : Int) - 1) = ((x.c.ms.length - 1 : Nat) : Int) := by unfold wr; rw [Bc (by omega) (by omega)]; omega
 have ws : ∀ a : Nat, a <= 40 -> IntKind.i64.wrap ((a : Int) + 1) = ((a + 1 : Nat) : Int) := λ a h => by rw [Bc (by omega) (by omega)]; rfl
 refine ⟨⟨h1.1, h0⟩, λ he => ?_, λ he => ⟨λ hn => ?_, λ hn => ⟨h1.2.1, λ hr => ?_, λ hr => ⟨⟨hl.2.1.1, hl.2.1.2, hs.1⟩, ⟨0, rfl, Nat.zero_le _, rfl⟩, ?_⟩⟩⟩⟩
 ·have e : (MO (fQ x) == 0) = false := by simpa using he
  unfold Bm; rw [e]; exact ⟨rfl, rfl⟩
 ·have e : (MO (fQ x) == 0) = true := by simpa using he
  have e2 : decide (x.t.t.length = x.c.ms.length /\ x.t.s.length = x.c.ms.length) = false := by
   rw [decide_eq_false_iff_not]; rintro ⟨a1, a2⟩; rw [a1, a2] at hn; simp at hn
  unfold Bm hldO; rw [e, e2]; exact ⟨rfl, rfl⟩
 ·have e : (MO (fQ x) == 0) = true := by simpa using he
  have e2 : x.t.t.length = x.c.ms.length /\ x.t.s.length = x.c.ms.length := by
   cases hq : ((x.t.t.length : Int) != x.c.ms.length) with
   | true => rw [hq] at hn; cases hn
   | false =>
    rw [hq] at hn
    have hn : ((x.t.s.length : Int) != x.c.ms.length) = false := hn
    simp at hq hn; omega
  have e3 : inT x.t.t = false := hr
  unfold Bm hldO; rw [e, decide_eq_true e2, e3]; exact ⟨rfl, rfl⟩
 ·have e : (MO (fQ x) == 0) = true := by simpa using he
  have e2 : x.t.t.length = x.c.ms.length /\ x.t.s.length = x.c.ms.length := by
   cases hq : ((x.t.t.length : Int) != x.c.ms.length) with
   | true => rw [hq] at hn; cases hn
   | false =>
    rw [hq] at hn
    have hn : ((x.t.s.length : Int) != x.c.ms.length) = false := hn
    simp at hq hn; omega
  have e3 : inT x.t.t = true := hr
  have hv : Bm x = (hdN x x.c.ms.length && hgN x (x.c.ms.length - 1), 0) := by unfold Bm hldO; rw [e, decide_eq_true e2, e3]; rfl
  obtain ⟨l1, l2⟩ := e2
  rintro a ⟨ha, hd⟩
  refine ⟨λ hlt => ⟨⟨by omega, by omega⟩, ⟨⟨by omega, by omega⟩, ⟨by omega, by rw [nl]; omega⟩, ⟨by omega, by rw [nl]; omega⟩, λ _ => ⟨by omega, by omega⟩⟩, λ hc => ?_, λ hc => ⟨a + 1, by rw [ws a (by omega)], ⟨by omega, ?_⟩, by omega⟩⟩, λ hge => ?_⟩
  ·have e5 : hd1 x a = false := by
    unfold hd1
    cases hq : KT (gD x.t.t a) (gD (XD x.c) a).lo (gD (XD x.c) a).hi with
    | false => rfl
    | true => rw [hq] at hc; simpa using hc
   rw [hv, AFE (f := hdN x) (g := hd1 x) (λ _ => rfl) (show a < x.c.ms.length by omega) e5]; exact ⟨rfl, rfl⟩
  ·have e5 : hd1 x a = true := by
    unfold hd1
    cases hq : KT (gD x.t.t a) (gD (XD x.c) a).lo (gD (XD x.c) a).hi with
    | false => rw [hq] at hc; cases hc
    | true => rw [hq] at hc; simpa using hc
   show (hdN x a && hd1 x a) = true
   rw [hd, e5]; rfl
  ·obtain rfl : a = x.c.ms.length := by omega
   refine ⟨⟨0, ⟨rfl, rfl⟩, Nat.zero_le _, rfl⟩, ?_⟩
   rintro g ⟨hg, hgn⟩
   have no : zN x g = false -> g < x.c.ms.length - 1 -> (Bm x).1 = false /\ (Bm x).2 = 0 := λ h h2 => by
    rw [hv, AFE (f := hgN x) (g := zN x) (λ _ => rfl) h2 h, Bool.and_false]; exact ⟨rfl, rfl⟩
   rw [wn, ws g (by omega)]
   refine ⟨λ hlt => ⟨⟨⟨by omega, by omega⟩, by omega, by omega⟩, ⟨by omega, by omega⟩, by omega, λ hp => ⟨⟨⟨by omega, by omega⟩, by omega, by omega⟩, λ hc => no ?_ (by omega), λ hc => ⟨g + 1, rfl, ⟨by omega, ?_⟩, by omega⟩⟩, λ hp => ⟨⟨⟨by omega, by omega⟩, by omega, by omega⟩, λ hc => no ?_ (by omega), λ hc => ⟨g + 1, rfl, ⟨by omega, ?_⟩, by omega⟩⟩⟩, λ hge => ?_⟩
   ·unfold zN HR; rw [hp]; exact hc
   ·have e5 : zN x g = true := by unfold zN HR; rw [hp]; exact hc
    show (hgN x g && zN x g) = true
    rw [hgn, e5]; rfl
   ·unfold zN HR; rw [hp]; exact hc
   ·have e5 : zN x g = true := by unfold zN HR; rw [hp]; exact hc
    show (hgN x g && zN x g) = true
    rw [hgn, e5]; rfl
   ·obtain rfl : g = x.c.ms.length - 1 := by omega
    rw [hv, hd, hgn]; exact ⟨rfl, rfl⟩
theorem BFQ (x : CT) (h : EI (C_hold.pre x)) : FnT Try.prog AAC (C_hold.xs x) (AB (C_hold.L x)) (C_hold.val x) (C_hold.keep x) := by
 have h1 : (x.c.ms.length < 4611686018427387904 /\ x.c.ns.length < 4611686018427387904 /\ x.t.z.length < 4611686018427387904) /\ x.t.t.length < 4611686018427387904 /\ x.t.s.length < 4611686018427387904 := h
 by_cases h0 : AM x.c = 0
 ·exact Hp (A := AZS x) (L := []) (keep := []) (ren := []) (fz := []) AQF (by kernel_rfl) (AA J1 (AA BYK (AA ASY (AA ASH (AA nD (AA zH AC)))))) (BUN x h1 h0) (AOJ Kn (BOH x) rfl rfl AC lP (by kernel_rfl) (by kernel_rfl))
 ·have h0' : (AM x.c == 0) = false := by simpa using h0
  have e0 : MO (fQ x) = AM x.c := by unfold MO; rw [ANP, h0']; rfl
  have e9 : (MO (fQ x) == 0) = false := by rw [e0]; exact h0'
  have e : C_hold.val x = .tup [.bool false, .int (MO (fQ x))] := by
   show AVal.tup [.bool (Bm x).1, .int (Bm x).2] = _
   unfold Bm; rw [e9]; rfl
  rw [e]
  refine Hp (A := AWH) (L := []) (keep := []) (ren := []) (fz := []) AQF (by kernel_rfl) (AA ANF AC) ?_
  show AUU x; rw [BDL]<;> delta KH wN ZR BG BJ EC ES ET BW AD BU CL AR BZ EK EJ GW EX HP HN HJ GT GB HC DU GG FE JW FP FK VV JL PW NJ JV RX Jf SW CI AE CR FA BB GA AF PX AY AU AG EM EZ FD AX FC BM CJ AK AN DD BH HX BY BP CX Uf HZ BN CY BS CE FU AV DA AQ Ac QY AZ LX DQ CP FT AS AP ID AT EG CM IY EN HV DT EL Ng FV EP HW IV DB FN CB FM AIN QZ DZ EA MB FQ BE Jm FO FZ LL LP GH TZ IC Bl BO SM LS CS EE FI IF BI BL HM KO JZ SP VB Ao RJ QS Az Fj RO Ta Wh; simp only [CC, eq_self, implies_true, forall_const, CU, BDB, e0]
  simp [h1, h0]
theorem BMF : AJ Try.prog AAC (C_hold.spec dCT) := okT C_hold BFQ _
end Go.Bal
