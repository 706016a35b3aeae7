/- Package chart, with the reference: Times, Timed. -/
import Derived.Test.YtdbjalgfomknhaaGreatChZd
import Derived.Test.YtdbjalgfomknhaaGreatChQ
import Derived.Test.YtdbjalgfomknhaaGreatChT4
set_option linter.unusedVariables false
set_option linter.unusedSimpArgs false
namespace Go.Bal
open Go Go.Sym Go.Proofs
def BBN (a : CZ) : Ann := ann 37 [(dA, C_Check.spec kM), (AJE, C_zUnl.spec pZ), (oZ, C_Stages.spec kM), (ACB, C_zNot.spec kM), (vI, C_zSet.spec dZL)]
def BCD (a : CZ) : Prop := CH Try.prog (BBN a) AER (AH AER) (xCZ a) (AB []) (.tup [.d (DE (Mt a).1), .int (Mt a).2]) [] [] []
abbrev Ep a:=AIC (Mt a)
abbrev lR a:=XD (OS a)
abbrev VC a:=AFK (Mt a)
attribute [go_sem] Ep lR VC
theorem BJA (a : CZ) : (BCD a) = (SK (AE (OC a) (OJ a) (XQ (DO a) (RH a a) (SJ a a) (RK a) (DT (VS a)) (HM (DO a)))) (Pt a) (Ru (VC a) (Ep a) (Pt a)) (HG (Bu a (DO a) (RH a a) (SJ a a) (RK a) (RS a) (He a)) (not (rX (QO a))) (Ru (VC a) (Ep a) 2) (SK (AE (OC a) (OJ a) (XQ (DO a) (RH a a) (SJ a a) (RK a) (DT (VS a)) (HM (DO a)))) (Tg (OS a)) (Ru (VC a) (Ep a) 6) (HG (FX (OC a) (OJ a) (AP (DO a)) (AS (DO a)) (AV (DO a)) (RH a a) (SJ a a) (DC (RK a) (λ i=>CS i (DO a)) (He a) (OC a) (OJ a) (AP (DO a)) (AS (DO a)) (AV (DO a)) (DC (RH a a) (λ i=>WP i a (DO a)) (RK a) (BI (DO a)) (OY a) (AD (λ i=>PC i a)) (JG (lR a)) (QH (lR a)) (PreS (ZL.mk (QO a) (IP (lR a))))))) (not (Ro (Zf (ZL.mk (QO a) (IP (lR a)))))) (Ru (VC a) (Ep a) 6) (AE (II (VC a) (cV (ZL.mk (QO a) (IP (lR a))))) (JQ (VC a) (cV (ZL.mk (QO a) (IP (lR a))))) (IQ (Ep a))))))) := by kernel_rfl
theorem BBT (a : CZ) : (Mt a).2 = CF a := by
 unfold Mt
 cases h : (CF a == 0) with
 | true =>
  have : CF a = 0 := by simpa using h
  rw [this]; rfl
 | false => rfl
theorem ARW {a : CZ} (h : CF a = 0) : Mt a = (Uy a, 0) := by unfold Mt; rw [h]; rfl
theorem AFI {a : CZ} (h : CF a ≠ 0) : Mt a = ([], CF a) := by
 unfold Mt; rw [show (CF a == 0) = false by simpa using h]; rfl
theorem BHF {a : CZ} (h0 : AM a.c = 0) (hz : rX a = true) (zl : a.z.length < 4611686018427387904) : PreS ⟨a, XD a.c⟩ := by
 have hc := QR.1 h0
 refine ⟨h0, hz, zl, IS _, ANI hc, λ i hi => ?_⟩
 rw [Zr (by rw [<- IS]; exact hi)]
 have := (AAQ hc i).1
 unfold kL at this; omega
theorem BSV (a : CZ) (h : a.c.ms.length < 4611686018427387904 /\ a.c.ns.length < 4611686018427387904 /\ a.z.length < 4611686018427387904) : BCD a := by
 obtain ⟨l1, l2, l3⟩ := h
 rw [BJA]<;> delta BG BJ EC ES ET BW ED AD BU CL AR GK EK EJ GW EX HP HN HJ GT GB HC DU GG FE JW Ef FP FK VV PW NJ DO LY mR Ro SW AFK AIC AE CR FA BB GA AF PX AY AU SX AG EM EZ QF AX FC BM CJ AK Gg AN DD BH HX BY XN BP CX Bj HZ BN CY BS CE FU AV DA Jc AZ PF CP FT AS Ji AP EG CM Ue IY EN AO DC DT EL FV IP OS EP JY DB FN CB FM XB EA MB FQ NG VS BE LI FO FZ LL GH JU Ja IQ OB VM CS FI II KP BI EY PN FX HM OJ PJ OC MY HG NN KO QO MV JQ WA VC JZ MD RS JG OY PC WP OX RK RH Ep Lj SJ QH RJ cE VG SK He Pt XQ Tg cV Bu Ru lR; simp only [CC, eq_self, implies_true, forall_const, CU, WD]
 refine ⟨⟨l1, l2⟩, λ h => ?_, λ h => ?_⟩
 ·have h : AM a.c ≠ 0 := by simpa using h
  have e : CF a = AM a.c := by unfold CF; rw [show (AM a.c == 0) = false by simpa using h]; rfl
  rw [AFI (by rw [e]; exact h), e]; exact ⟨rfl, rfl, rfl⟩
 have h0 : AM a.c = 0 := by simpa using h
 refine ⟨⟨l3, h0⟩, λ hz => ?_, λ hz => ⟨⟨l1, l2⟩, λ hs => ?_, λ hs => ?_⟩⟩
 ·have e : CF a = 2 := by unfold CF; rw [h0, hz]; rfl
  rw [AFI (by rw [e]; decide), e]; exact ⟨rfl, rfl, rfl⟩
 ·have hq : ZV a.c = false := by
   cases hq : ZV a.c with
   | false => rfl
   | true => rw [gN h0, hq] at hs; cases hs
  have e : CF a = 6 := by
   unfold CF GD; rw [h0, hz, Ev, hq]; rfl
  rw [AFI (by rw [e]; decide), e]; exact ⟨rfl, rfl, rfl⟩
 have hq : ZV a.c = true := by
  cases hq : ZV a.c with
  | true => rfl
  | false => rw [gN h0, hq] at hs; cases hs
 have et : GD (CV a) = (OH (CV a) (XD a.c), (OH (CV a) (XD a.c)).all Du) := by
  unfold GD; rw [Ev, hq]; rfl
 refine ⟨⟨h0, BHF h0 hz l3⟩, λ hv => ?_, λ hv => ?_⟩
 ·have hb : (OH (CV a) (XD a.c)).all Du = false := by
   cases hb : (OH (CV a) (XD a.c)).all Du with
   | false => rfl
   | true => unfold Zf at hv; rw [hb] at hv; cases hv
  have e : CF a = 6 := by
   unfold CF; rw [h0, hz, et, hb]; rfl
  rw [AFI (by rw [e]; decide), e]; exact ⟨rfl, rfl, rfl⟩
 ·have hb : (OH (CV a) (XD a.c)).all Du = true := by
   cases hb : (OH (CV a) (XD a.c)).all Du with
   | true => rfl
   | false => unfold Zf at hv; rw [hb] at hv; cases hv
  have e : CF a = 0 := by
   unfold CF; rw [h0, hz, et, hb]; rfl
  have e2 : (Zf ⟨a, XD a.c⟩).1 = Uy a := by
   unfold Zf Uy; rw [hb, et]; rfl
  rw [ARW e, e2]; exact ⟨rfl, λ _ _ => ⟨rfl, rfl⟩, rfl⟩
theorem AVO : AJ Try.prog lE (C_Times.spec pZ) := XP C_Times BBN [] [] AYL (λ _ => by kernel_rfl) (λ _ => AA rA (AA AWS (AA ADM (AA BKL (AA BMU AC))))) (λ a h => BSV a h) (λ _ => YS rfl rfl) _
def Ui (x : TrI) : Int := bif (bif CF x.a != 0 then CF x.a != 6 else false) then CF x.a else bif !KT x.m 0 (wr ((x.a.c.ms.length : Int) - 1)) then 2 else bif CF x.a != 0 then CF x.a else bif !KT x.t (gD (Uy x.a) x.m.toNat).lo (gD (Uy x.a) x.m.toNat).hi then 5 else 0
def C_zTmd : Ctr := { α := TrI, xs := xTrI, val := λ x => .int (Ui x), keep := λ _ => [], pre := λ x => [x.a.c.ms.length < 4611686018427387904 /\ x.a.c.ns.length < 4611686018427387904 /\ x.a.z.length < 4611686018427387904] }
def BEM (x : TrI) : Prop := CH Try.prog (ann 45 [(lE, C_Times.spec pZ), (tM, L6)]) AGI (AH AGI) (xTrI x) (AB []) (.int (Ui x)) [] [] []
theorem BLO (x : TrI) : (BEM x) = ((x.a.c.p.lo = x.a.c.p.lo /\ x.a.c.p.hi = x.a.c.p.hi /\ x.a.c.base = x.a.c.base /\ x.a.c.scale = x.a.c.scale /\ x.a.c.off = x.a.c.off /\ (IK x.a.c.ms.length λ (i : Nat) => gD
 x.a.c.ms i).length = x.a.c.ms.length /\ (∀ (i : Nat), i < (IK x.a.c.ms.length λ (i : Nat) => gD x.a.c.ms i).length -> (gD (IK x.a.c.ms.length λ (i : Nat) => gD x.a.c.ms i) i).pl = (gD x.a.c.ms i).pl /\ (gD (IK
 x.a.c.ms.length λ (i : Nat) => gD x.a.c.ms i) i).ht = (gD x.a.c.ms i).ht) /\ (IK x.a.c.ns.length λ (i : Nat) => gD x.a.c.ns i).length = x.a.c.ns.length /\ (∀ (i : Nat), i < (IK x.a.c.ns.length λ (i : Nat) => gD
 x.a.c.ns i).length -> (gD (IK x.a.c.ns.length λ (i : Nat) => gD x.a.c.ns i) i).mi = (gD x.a.c.ns i).mi /\ (gD (IK x.a.c.ns.length λ (i : Nat) => gD x.a.c.ns i) i).t.lo = (gD x.a.c.ns i).t.lo /\ (gD (IK
 x.a.c.ns.length λ (i : Nat) => gD x.a.c.ns i) i).t.hi = (gD x.a.c.ns i).t.hi /\ (gD (IK x.a.c.ns.length λ (i : Nat) => gD x.a.c.ns i) i).s.lo = (gD x.a.c.ns i).s.lo /\ (gD (IK x.a.c.ns.length λ (i : Nat) => gD
 x.a.c.ns i) i).s.hi = (gD x.a.c.ns i).s.hi) /\ (IK x.a.z.length λ (i : Nat) => gD x.a.z i).length = x.a.z.length /\ (∀ (i : Nat), i < (IK x.a.z.length λ (i : Nat) => gD x.a.z i).length -> gD (IK x.a.z.length λ (i :
 Nat) => gD x.a.z i) i = gD x.a.z i) /\ (IK x.a.c.ms.length λ (i : Nat) => gD x.a.c.ms i).length < 4611686018427387904 /\ (IK x.a.c.ns.length λ (i : Nat) => gD x.a.c.ns i).length < 4611686018427387904 /\ (IK
 x.a.z.length λ (i : Nat) => gD x.a.z i).length < 4611686018427387904) /\ bif bif (Mt (CZ.mk (Cht.mk x.a.c.p x.a.c.base x.a.c.scale x.a.c.off (IK x.a.c.ms.length λ (i : Nat) => gD x.a.c.ms i) (IK x.a.c.ns.length
 λ (i : Nat) => gD x.a.c.ns i)) (IK x.a.z.length λ (i : Nat) => gD x.a.z i))).snd != 0 then (Mt (CZ.mk (Cht.mk x.a.c.p x.a.c.base x.a.c.scale x.a.c.off (IK x.a.c.ms.length λ (i : Nat) => gD x.a.c.ms i) (IK
 x.a.c.ns.length λ (i : Nat) => gD x.a.c.ns i)) (IK x.a.z.length λ (i : Nat) => gD x.a.z i))).snd != 6 else false then Ui x = (Mt (CZ.mk (Cht.mk x.a.c.p x.a.c.base x.a.c.scale x.a.c.off (IK x.a.c.ms.length fun
 (i : Nat) => gD x.a.c.ms i) (IK x.a.c.ns.length λ (i : Nat) => gD x.a.c.ns i)) (IK x.a.z.length λ (i : Nat) => gD x.a.z i))).snd else bif !KT x.m 0 (IntKind.i64.wrap ((↑x.a.c.ms.length : Int) - 1)) then Ui x = 2
 else bif (Mt (CZ.mk (Cht.mk x.a.c.p x.a.c.base x.a.c.scale x.a.c.off (IK x.a.c.ms.length λ (i : Nat) => gD x.a.c.ms i) (IK x.a.c.ns.length λ (i : Nat) => gD x.a.c.ns i)) (IK x.a.z.length λ (i : Nat) => gD
 x.a.z i))).snd != 0 then Ui x = (Mt (CZ.mk (Cht.mk x.a.c.p x.a.c.base x.a.c.scale x.a.c.off (IK x.a.c.ms.length λ (i : Nat) => gD x.a.c.ms i) (IK x.a.c.ns.length λ (i : Nat) => gD x.a.c.ns i)) (IK x.a.z.length
 λ (i : Nat) => gD x.a.z i))).snd else ((0 <= x.m /\ x.m < (↑(Mt (CZ.mk (Cht.mk x.a.c.p x.a.c.base x.a.c.scale x.a.c.off (IK x.a.c.ms.length λ (i : Nat) => gD x.a.c.ms i) (IK x.a.c.ns.length λ (i : Nat) => gD
 x.a.c.ns i)) (IK x.a.z.length λ (i : Nat) => gD x.a.z i))).fst.length : Int)) /\ 0 <= x.m /\ x.m < (↑(Mt (CZ.mk (Cht.mk x.a.c.p x.a.c.base x.a.c.scale x.a.c.off (IK x.a.c.ms.length λ (i : Nat) => gD x.a.c.ms i) (IK
 x.a.c.ns.length λ (i : Nat) => gD x.a.c.ns i)) (IK x.a.z.length λ (i : Nat) => gD x.a.z i))).fst.length : Int)) /\ bif !KT x.t (gD (Mt (CZ.mk (Cht.mk x.a.c.p x.a.c.base x.a.c.scale x.a.c.off (IK x.a.c.ms.length
 λ (i : Nat) => gD x.a.c.ms i) (IK x.a.c.ns.length λ (i : Nat) => gD x.a.c.ns i)) (IK x.a.z.length λ (i : Nat) => gD x.a.z i))).fst x.m.toNat).lo (gD (Mt (CZ.mk (Cht.mk x.a.c.p x.a.c.base x.a.c.scale x.a.c.off
 (IK x.a.c.ms.length λ (i : Nat) => gD x.a.c.ms i) (IK x.a.c.ns.length λ (i : Nat) => gD x.a.c.ns i)) (IK x.a.z.length λ (i : Nat) => gD x.a.z i))).fst x.m.toNat).hi then Ui x = 5 else Ui x = 0) := by
 kernel_rfl
theorem BTX (x : TrI) (h : x.a.c.ms.length < 4611686018427387904 /\ x.a.c.ns.length < 4611686018427387904 /\ x.a.z.length < 4611686018427387904) : BEM x := by
 rw [BLO]; simp only [CC, eq_self, implies_true, forall_const, CU, WD, BBT]
 refine ⟨h, λ h1 => ?_, λ h1 => ⟨λ h2 => ?_, λ h2 => ⟨λ h3 => ?_, λ h3 => ?_⟩⟩⟩
 ·unfold Ui; rw [h1]; rfl
 ·unfold Ui wr; rw [h1, h2]; rfl
 ·unfold Ui wr; rw [h1, h2, h3]; rfl
 ·have h0 : CF x.a = 0 := by simpa using h3
  have hm := GX.1 h2
  obtain ⟨m1, m2⟩ := (QR.1 (Qs h0).1).m
  rw [Bc (by omega) (by omega)] at hm
  rw [ARW h0]
  show (0 <= x.m /\ x.m < ((Uy x.a).length : Int)) /\ (KT x.t (gD (Uy x.a) x.m.toNat).lo (gD (Uy x.a) x.m.toNat).hi = false -> Ui x = 5) /\ (KT x.t (gD (Uy x.a) x.m.toNat).lo (gD (Uy x.a) x.m.toNat).hi = true -> Ui x = 0)
  refine ⟨by rw [yH h0]; omega, λ h4 => ?_, λ h4 => ?_⟩
  ·unfold Ui wr; rw [h1, h2, h3, h4]; rfl
  ·unfold Ui wr; rw [h1, h2, h3, h4]; rfl
theorem BLC : AJ Try.prog AFX (C_zTmd.spec dTrI) := XP C_zTmd (λ _ => ann 45 [(lE, C_Times.spec pZ), (tM, L6)]) [] [] AYV (λ _ => by kernel_rfl) (λ _ => AA AVO (AA AAG AC)) (λ x h => BTX x h) (λ _ => YS rfl rfl) _
end Go.Bal

namespace Go.Bal
open Go Go.Sym Go.Proofs
theorem ArcOk.ext2 {N M s : Nat -> Span} {n : Nat} (h : ArcOk N s n) (e : ∀ i, i <= n -> N i = M i) : ArcOk M s n := by
 refine ⟨λ i hi => by rw [<- e i hi]; exact h.ne i hi, λ g hg x hx => ?_, λ g hg y hy => ?_⟩
 ·rw [<- e (g + 1) (by omega)]; exact h.up g hg x (by rw [e g (by omega)]; exact hx)
 ·obtain ⟨x, h1, h2⟩ := h.down g hg y (by rw [e (g + 1) (by omega)]; exact hy)
  exact ⟨x, by rw [<- e g (by omega)]; exact h1, h2⟩
theorem ADU {x : TrI} (hr : CF x.a = 0) {i : Nat} (hi : i < x.a.c.ms.length) (hm : 0 <= x.m) (v : Int) : (gD (aS x) i).has v ↔ (gD (Uy x.a) i).has v /\ (i = x.m.toNat -> v = x.t) := by
 obtain ⟨_, _, _, _, e⟩ := Ra hr
 have nl : (nlL x.a).length = x.a.c.ms.length := by unfold nlL; rw [Fz, IS]
 unfold aS
 rw [FF _ _ _ (by omega), e]
 by_cases q : i = x.m.toNat
 ·rw [decide_eq_true q]
  show (bK (gD (nlL x.a) x.m.toNat) ⟨x.t, x.t⟩).has v ↔ _
  rw [Zv, <- q]
  constructor
  ·rintro ⟨h1, h2, h3⟩
   have h2 : x.t <= v := h2
   have h3 : v <= x.t := h3
   exact ⟨h1, λ _ => by omega⟩
  ·rintro ⟨h1, h2⟩
   have h3 := h2 rfl
   exact ⟨h1, (show x.t <= v by omega), (show v <= x.t by omega)⟩
 ·rw [decide_eq_false q]
  exact ⟨λ h => ⟨h, λ e => absurd e q⟩, λ h => h.1⟩
theorem AUV {x : TrI} (h : ChOk x.a.c) (hr : CF x.a = 0) (ht : -1000000000 <= x.t /\ x.t <= 1000000000) {i : Nat} (hi : i < x.a.c.ms.length) : kL 1000000000 (gD (aS x) i) := by
 obtain ⟨_, _, _, _, e⟩ := Ra hr
 have nl : (nlL x.a).length = x.a.c.ms.length := by unfold nlL; rw [Fz, IS]
 have b := BHS h hr hi
 rw [e] at b
 unfold aS
 rw [FF _ _ _ (by omega)]
 by_cases q : i = x.m.toNat
 ·rw [decide_eq_true q]
  show kL 1000000000 (bK (gD (nlL x.a) x.m.toNat) ⟨x.t, x.t⟩)
  rw [<- q]
  generalize gD (nlL x.a) i = L at *
  unfold kL bK at *
  unfold PD Bn
  simp only
  constructor
  ·split <;> omega
  ·split <;> omega
 ·rw [decide_eq_false q]
  show kL 1000000000 (gD (nlL x.a) i)
  unfold kL at *; omega
theorem BLJ {x : TrI} (h : ChOk x.a.c) (hr : CF x.a = 0) (hm : 0 <= x.m /\ x.m < x.a.c.ms.length) (ht : -1000000000 <= x.t /\ x.t <= 1000000000) : (cZ x).all Du = true ↔ ∃ u, TrC x.a.c (CV x.a).sp u /\ u x.m.toNat = x.t := by
 unfold cZ
 rw [APG h hr (dD x) (λ i hi => AUV h hr ht hi) (λ i hi v => ADU hr hi hm.1 v)]
 exact ⟨λ ⟨u, u1, u2⟩ => ⟨u, u1, u2 _ (by omega) rfl⟩, λ ⟨u, u1, u2⟩ => ⟨u, u1, λ i _ e => by rw [e]; exact u2⟩⟩
theorem BVO {x : TrI} (h : ChOk x.a.c) (hr : CF x.a = 0) (hm : 0 <= x.m /\ x.m < x.a.c.ms.length) (ht : -1000000000 <= x.t /\ x.t <= 1000000000) (hk : (cZ x).all Du = true) : TrC x.a.c (CV x.a).sp (trT x) /\ trT x x.m.toNat = x.t := by
 have hl := h.m
 have l1 := dD x
 have l2 := AAS x
 have b1 : gpOk (HR (CV x.a)) (x.a.c.ms.length - 1) := pR (w := CV x.a) h
 have b2 : ∀ g, g < x.a.c.ms.length - 1 -> (HR (CV x.a) g).lo <= (HR (CV x.a) g).hi := rC (w := CV x.a) h
 have b1' : gpOk (HR (CV x.a)) ((aS x).length - 1) := by rw [l1]; exact b1
 have bd := λ i (hi : i < x.a.c.ms.length) => AUV h hr ht hi
 have e : ∀ i, i < x.a.c.ms.length -> gD (cZ x) i = nar (gD (aS x)) (HR (CV x.a)) (x.a.c.ms.length - 1) i := λ i hi => by
  have := oY (w := CV x.a) (l := aS x) (by omega) (by omega) (λ i hi => bd i (by omega)) b1' (i := i) (by omega)
  rw [l1] at this
  exact this
 have hle : ∀ i, i < x.a.c.ms.length -> (gD (cZ x) i).lo <= (gD (cZ x) i).hi := λ i hi => Zu.1 hk i (by omega)
 have arc : ArcOk (gD (cZ x)) (HR (CV x.a)) (x.a.c.ms.length - 1) := (AVP (l := gD (aS x)) b2 (λ i hi => by rw [<- e i (by omega)]; exact hle i (by omega))).ext2 λ i hi => (e i (by omega)).symm
 have low := arc.low
 have eq : ∀ i, i < x.a.c.ms.length -> trT x i = lowT (gD (cZ x)) (HR (CV x.a)) i := by
  intro i
  induction i with
  | zero => intro _; rfl
  | succ g ih =>
   intro hg
   have ih := ih (by omega)
   have at_ := low.at_ g (by omega)
   have nb := BUE (l := gD (aS x)) (s := HR (CV x.a)) (n := x.a.c.ms.length - 1) (i := g) (by omega)
   rw [<- e g (by omega)] at nb
   have bg := bd g (by omega)
   have gb := b1 g (by omega)
   show PD (gD (cZ x) (g + 1)).lo (wr (trT x g + (HR (CV x.a) g).lo)) = PD (gD (cZ x) (g + 1)).lo (lowT (gD (cZ x)) (HR (CV x.a)) g + (HR (CV x.a) g).lo)
   rw [ih]
   unfold Span.has at at_
   unfold kL at bg
   have w : wr (lowT (gD (cZ x)) (HR (CV x.a)) g + (HR (CV x.a) g).lo) = lowT (gD (cZ x)) (HR (CV x.a)) g + (HR (CV x.a) g).lo := Bc (by omega) (by omega)
   rw [w]
 have low' : Tr (gD (cZ x)) (HR (CV x.a)) (x.a.c.ms.length - 1) (trT x) :=
  ⟨λ i hi => by rw [eq i (by omega)]; exact low.at_ i hi, λ g hg => by rw [eq g (by omega), eq (g + 1) (by omega)]; exact low.gap g hg⟩
 have in1 : ∀ i, i < x.a.c.ms.length -> (gD (Uy x.a) i).has (trT x i) /\ (i = x.m.toNat -> trT x i = x.t) := λ i hi => by
  have := low'.at_ i (by omega)
  rw [e i hi] at this
  exact (ADU hr hi hm.1 _).1 (AUZ (by omega) this)
 refine ⟨⟨λ i hi => ?_, λ k hk => ?_⟩, (in1 _ (by omega)).2 rfl⟩
 ·obtain ⟨v, v1, v2⟩ := (AHP h hr (by omega)).1 (in1 i (by omega)).1
  have := v1.note (i := i) (by omega)
  rw [v2] at this; exact this
 ·have := low'.gap k hk
  rw [Qp (w := CV x.a) h (by show k + 1 < x.a.c.ms.length; omega)] at this; exact this
theorem AUH (x : CT) : ∀ n, hdN x n = true ↔ ∀ k, k < n -> hd1 x k = true
 | 0 => ⟨λ _ k h => absurd h (Nat.not_lt_zero _), λ _ => rfl⟩
 | n + 1 => by
  show (hdN x n && hd1 x n) = true ↔ _
  rw [Bool.and_eq_true, AUH x n]
  constructor
  ·rintro ⟨h1, h2⟩ k hk
   rcases Nat.lt_or_ge k n with q | q
   ·exact h1 k q
   ·obtain rfl : k = n := by omega
    exact h2
  ·intro h; exact ⟨λ k hk => h k (by omega), h n (Nat.lt_succ_self _)⟩
theorem AWM (x : CT) : ∀ n, hgN x n = true ↔ ∀ k, k < n -> zN x k = true
 | 0 => ⟨λ _ k h => absurd h (Nat.not_lt_zero _), λ _ => rfl⟩
 | n + 1 => by
  show (hgN x n && zN x n) = true ↔ _
  rw [Bool.and_eq_true, AWM x n]
  constructor
  ·rintro ⟨h1, h2⟩ k hk
   rcases Nat.lt_or_ge k n with q | q
   ·exact h1 k q
   ·obtain rfl : k = n := by omega
    exact h2
  ·intro h; exact ⟨λ k hk => h k (by omega), h n (Nat.lt_succ_self _)⟩
theorem BEW {x : CT} (h : ChOk x.c) (hz : rX ⟨x.c, x.t.z⟩ = true) (l1 : x.t.t.length = x.c.ms.length) (l2 : x.t.s.length = x.c.ms.length) (hb : ∀ i, i < x.c.ms.length -> -100000000 <= gD x.t.t i /\ gD x.t.t i <= 100000000) :
  (Bm x).2 = 0 /\ ((Bm x).1 = true ↔ TrC x.c (CV ⟨x.c, x.t.z⟩).sp (gD x.t.t) /\ ∀ i, i < x.c.ms.length -> (Dv x.c i).has (gD x.t.s i)) := by
 have hm := h.m
 have e0 : MO (fQ x) = 0 := by
  have : rX (fQ x) = true := hz
  unfold MO; rw [show AM (fQ x).c = 0 from QR.2 h, this]; rfl
 have e1 : inT x.t.t = true := List.all_eq_true.2 λ a ha => by
  obtain ⟨i, hi, rfl⟩ := YH ha
  exact GX.2 (hb i (by omega))
 have e2 : Bm x = (hdN x x.c.ms.length && hgN x (x.c.ms.length - 1), 0) := by
  unfold Bm hldO; rw [e0, decide_eq_true (show x.t.t.length = x.c.ms.length /\ x.t.s.length = x.c.ms.length from ⟨l1, l2⟩), e1]; rfl
 rw [e2]
 refine ⟨rfl, ?_⟩
 show (hdN x x.c.ms.length && hgN x (x.c.ms.length - 1)) = true ↔ _
 rw [Bool.and_eq_true, AUH, AWM]
 have a1 : ∀ i, i < x.c.ms.length -> (hd1 x i = true ↔ (S8 x.c i).has (gD x.t.t i) /\ (Dv x.c i).has (gD x.t.s i)) := λ i hi => by
  unfold hd1
  rw [Bool.and_eq_true, GX, GX, Zr hi]; exact Iff.rfl
 have a2 : ∀ g, g < x.c.ms.length - 1 -> (zN x g = true ↔ (gapP x.c (CV ⟨x.c, x.t.z⟩).sp g).has (gD x.t.t (g + 1) - gD x.t.t g)) := λ g hg => by
  have q1 := hb g (by omega)
  have q2 := hb (g + 1) (by omega)
  have w : wr (gD x.t.t (g + 1) - gD x.t.t g) = gD x.t.t (g + 1) - gD x.t.t g := Bc (by omega) (by omega)
  unfold zN
  rw [GX, w]
  have e := Qp (w := CV (fQ x)) h (g := g) (by show g + 1 < x.c.ms.length; omega)
  rw [e]; exact Iff.rfl
 constructor
 ·rintro ⟨h1, h2⟩
  exact ⟨⟨λ i hi => ((a1 i (by omega)).1 (h1 i (by omega))).1, λ g hg => (a2 g hg).1 (h2 g hg)⟩, λ i hi => ((a1 i hi).1 (h1 i hi)).2⟩
 ·rintro ⟨h1, h2⟩
  exact ⟨λ i hi => (a1 i hi).2 ⟨h1.note hi, h2 i hi⟩, λ g hg => (a2 g hg).2 (h1.gap g hg)⟩
end Go.Bal
