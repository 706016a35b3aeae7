/- Package chart: times as a row of one's own. -/
import Derived.Test.YtdbjalgfomknhaaGreatChM
import Derived.Test.YtdbjalgfomknhaaGreatChT6
import Derived.Test.YtdbjalgfomknhaaGreatChZd
import Derived.Test.YtdbjalgfomknhaaGreatChT8
set_option linter.unusedVariables false
set_option linter.unusedSimpArgs false



namespace Go.Bal
open Go Go.Sym Go.Proofs
def AWI (a : CZ) : Ann := ann 37 [(tP, C_Check.spec oQ), (AME, C_zUnl.spec dCZ), (F2, C_Stages.spec oQ), (P9, C_zNot.spec oQ), (Vq, C_zSet.spec dZL)]
def BBT (a : CZ) : Prop := CL Try.prog (AWI a) AAL (AH AAL) (xCZ a) (AB []) (.tup [.d (DA (iG a).1), .int (iG a).2]) [] [] []
abbrev hZ:=ZL.mk
abbrev Eh a:=G6 (iG a)
abbrev fP a:=Gt (KG a)
abbrev WW a:=vE (iG a)
attribute [go_sem] hZ Eh fP WW
theorem BGN (a : CZ) : (BBT a) = (QQ (NE (FT a) (RH a) (λ i=>JW i a (FT a)) (VO a a) (λ i=>VI i a a i) (PS a) (QJ a)) (Lh a) (Qo (WW a) (Eh a) (Lh a)) (GN (AG (Fo a) (Fp a) (Gl a) (Gr a) (HJ (Fy a) (RH a) (Ji a a) (VO a a) (λ i=>VI i a a i) (JR a) (λ i=>LJ i a) (PY a) (OO a))) (not (okZ (PN a))) (Qo (WW a) (Eh a) 2) (QQ (NE (FT a) (RH a) (λ i=>JW i a (FT a)) (VO a a) (λ i=>VI i a a i) (PS a) (QJ a)) (fB (KG a)) (Qo (WW a) (Eh a) 6) (GN (HP (Fo a) (Fp a) (Gl a) (Gr a) (Fy a) (RH a) (Ji a a) (BY (VO a a) (λ i=>VI i a a i) (OO a) (Fo a) (Fp a) (Gl a) (Gr a) (Fy a) (BY (RH a) (λ i=>JW i a (FT a)) (VO a a) (AC (λ i=>VI i a a i)) (JR a) (Bq a) (NA (fP a) (CU (fP a))) (VX (fP a)) (PreS (hZ (PN a) (PM (fP a))))))) (not (Ox (hZ (PN a) (PM (fP a))))) (Qo (WW a) (Eh a) 6) (AE (HO (WW a) (Yw (hZ (PN a) (PM (fP a))))) (NU (CU (WW a)) (WW a) (Yw (hZ (PN a) (PM (fP a))))) (JF (Eh a))))))) := by kernel_rfl
theorem ALU (a : CZ) : (iG a).2 = DK a := by
 unfold iG
 cases h : (DK a == 0) with
 | true =>
  have : DK a = 0 := by simpa using h
  rw [this]; rfl
 | false => rfl
theorem AEU {a : CZ} (h : DK a = 0) : iG a = (RS a, 0) := by unfold iG; rw [h]; rfl
theorem ADT {a : CZ} (h : DK a ≠ 0) : iG a = ([], DK a) := by
 unfold iG; rw [show (DK a == 0) = false by simpa using h]; rfl
theorem AWQ {a : CZ} (h0 : AU a.c = 0) (hz : okZ a = true) (zl : a.z.length < 4611686018427387904) : PreS ⟨a, Gt a.c⟩ := by
 have hc := PX.1 h0
 refine ⟨h0, hz, zl, OY _, AGS hc, λ i hi => ?_⟩
 rw [vU (by rw [<- OY]; exact hi)]
 have := (M8 hc i).1
 unfold dC at this; omega
theorem BKW (a : CZ) (h : a.c.ms.length < 4611686018427387904 /\ a.c.ns.length < 4611686018427387904 /\ a.z.length < 4611686018427387904) : BBT a := by
 obtain ⟨l1, l2, l3⟩ := h
 rw [BGN]<;> delta BA BI FW EX FI CE CU AC BX CM AQ LU DX ER GP GA HQ HT HC HR DS GB ED Ak TU BV BQ FT SA NM kJ Vc vE G6 hZ AE BG AW EO GJ GI AG SV GM NV BF BE UR CK AR VB CN BD AF CG YT AO CQ BS CV Dc JL CY BO CR AL ZB Ao QX Bc Cl CF AM AT DR AS EG FC Db AP FG Uf CS FV TB DF HA FU EM KG ET AN BY NY FY FJ EV EJ Hh Tx HH LR OK Df OM JF JZ HJ PM MQ MT PN EK QV LO MD GZ LI OC PF UE PU SU RT TI GN HP HE RP NL MJ VE QC OP HO JR QM JW YF OO PY QJ LJ PS WW NU NA Fe UN RN RH ZZ Yc Eh VO QQ Ie VI Lh VX NE Fy Bq Gl Gr Ox fP Fo Yw Qo Fp Ji fB; simp only [CC, eq_self, implies_true, forall_const, DN, Cg]
 refine ⟨⟨l1, l2⟩, λ h => ?_, λ h => ?_⟩
 ·have h : AU a.c ≠ 0 := by simpa using h
  have e : DK a = AU a.c := by unfold DK; rw [show (AU a.c == 0) = false by simpa using h]; rfl
  rw [ADT (by rw [e]; exact h), e]; exact ⟨rfl, rfl, rfl⟩
 have h0 : AU a.c = 0 := by simpa using h
 refine ⟨⟨l3, h0⟩, λ hz => ?_, λ hz => ⟨⟨l1, l2⟩, λ hs => ?_, λ hs => ?_⟩⟩
 ·have e : DK a = 2 := by unfold DK; rw [h0, hz]; rfl
  rw [ADT (by rw [e]; decide), e]; exact ⟨rfl, rfl, rfl⟩
 ·have hq : Hf a.c = false := by
   cases hq : Hf a.c with
   | false => rfl
   | true => rw [gO h0, hq] at hs; cases hs
  have e : DK a = 6 := by
   unfold DK IA; rw [h0, hz, Qx, hq]; rfl
  rw [ADT (by rw [e]; decide), e]; exact ⟨rfl, rfl, rfl⟩
 have hq : Hf a.c = true := by
  cases hq : Hf a.c with
  | true => rfl
  | false => rw [gO h0, hq] at hs; cases hs
 have et : IA (GX a) = (YW (GX a) (Gt a.c), (YW (GX a) (Gt a.c)).all Fa) := by
  unfold IA; rw [Qx, hq]; rfl
 refine ⟨⟨h0, AWQ h0 hz l3⟩, λ hv => ?_, λ hv => ?_⟩
 ·have hb : (YW (GX a) (Gt a.c)).all Fa = false := by
   cases hb : (YW (GX a) (Gt a.c)).all Fa with
   | false => rfl
   | true => unfold Wl at hv; rw [hb] at hv; cases hv
  have e : DK a = 6 := by
   unfold DK; rw [h0, hz, et, hb]; rfl
  rw [ADT (by rw [e]; decide), e]; exact ⟨rfl, rfl, rfl⟩
 ·have hb : (YW (GX a) (Gt a.c)).all Fa = true := by
   cases hb : (YW (GX a) (Gt a.c)).all Fa with
   | true => rfl
   | false => unfold Wl at hv; rw [hb] at hv; cases hv
  have e : DK a = 0 := by
   unfold DK; rw [h0, hz, et, hb]; rfl
  have e2 : (Wl ⟨a, Gt a.c⟩).1 = RS a := by
   unfold Wl RS; rw [hb, et]; rfl
  rw [AEU e, e2]; exact ⟨rfl, λ _ _ => ⟨rfl, rfl⟩, rfl⟩
theorem AHC : AK Try.prog kZ (C_Times.spec dCZ) := XM C_Times AWI [] [] ATF (λ _ => by kernel_rfl) (λ _ => AA ACF (AA BEF (AA ANI (AA BGP (AA AGY AD))))) (λ a h => BKW a h) (λ _ => YR rfl rfl) _
end Go.Bal

namespace Go.Bal
open Go Go.Sym Go.Proofs
theorem ArcOk.ext2 {N M s : Nat -> Span} {n : Nat} (h : ArcOk N s n) (e : ∀ i, i <= n -> N i = M i) : ArcOk M s n := by
 refine ⟨λ i hi => by rw [<- e i hi]; exact h.ne i hi, λ g hg x hx => ?_, λ g hg y hy => ?_⟩
 ·rw [<- e (g + 1) (by omega)]; exact h.up g hg x (by rw [e g (by omega)]; exact hx)
 ·obtain ⟨x, h1, h2⟩ := h.down g hg y (by rw [e (g + 1) (by omega)]; exact hy)
  exact ⟨x, by rw [<- e g (by omega)]; exact h1, h2⟩
end Go.Bal

namespace Go.Bal
open Go Go.Sym Go.Proofs
theorem TrC.ext {c : Cht} {sp : Nat -> Bool} {u v : Nat -> Int} (hc : 1 <= c.ms.length) (h : TrC c sp u) (e : ∀ i, i < c.ms.length -> u i = v i) : TrC c sp v :=
 ⟨λ i hi => by rw [<- e i (by omega)]; exact h.at_ i hi, λ g hg => by rw [<- e g (by omega), <- e (g + 1) (by omega)]; exact h.gap g hg⟩
end Go.Bal
