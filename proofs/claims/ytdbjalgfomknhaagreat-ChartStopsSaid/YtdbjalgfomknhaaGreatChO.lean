/- Package chart: times as a row of one's own. -/
import Derived.Test.YtdbjalgfomknhaaGreatChM
import Derived.Test.YtdbjalgfomknhaaGreatChZa
import Derived.Test.YtdbjalgfomknhaaGreatChZd
set_option linter.unusedVariables false
set_option linter.unusedSimpArgs false



namespace Go.Bal
open Go Go.Sym Go.Proofs
def BKQ (a : CZ) : Ann := ann 37 [(Ph, C_Check.spec aM), (AWC, C_zUnl.spec dCZ), (L0, C_Stages.spec aM), (AFH, C_zNot.spec aM), (tR, C_zSet.spec dZL)]
def BJS (a : CZ) : Prop := CF Try.prog (BKQ a) ABD (AH ABD) (xCZ a) (AB []) (.tup [.d (DC (dX a).1), .int (dX a).2]) [] [] []
abbrev Ua a:=AFY (dX a)
abbrev gU a:=ASI (dX a)
attribute [go_sem] Ua gU
theorem BMZ (a : CZ) : (BJS a) = (Cc (GB a) (VH a) (HB (GB a) (US a a) (λ i=>RO i a (GB a)) (UM a a) (λ i=>UN i a i a i i) (WE a) (WV a)) (Eh (MH (Mg a)) (gU a) (AS (Ua a) (Mg a)) (EG (XQ a) (VH a) (Gl a) (Gf a) (HR (Hc a) (US a a) (Jr a a) (UM a a) (λ i=>UN i a i a i i) (MK a) (λ i=>MO i a) (WX a) (Gv a)) (Eh (not (V6 (UC a))) (gU a) (AS (Ua a) 2) (Cc (GB a) (VH a) (HB (GB a) (US a a) (λ i=>RO i a (GB a)) (UM a a) (λ i=>UN i a i a i i) (WE a) (WV a)) (Eh (MH (fH (MV a))) (gU a) (Gb (Ua a)) (BC (XQ a) (DT (VH a) (Gl a) (Gf a) (Hc a) (US a a) (Jr a a) (CW (UM a a) (λ i=>UN i a i a i i) (Gv a) (XQ a) (VH a) (Gl a) (Gf a) (Hc a) (CW (US a a) (λ i=>RO i a (GB a)) (UM a a) (AF (λ i=>UN i a i a i i)) (MK a) (AF (λ i=>MO i a)) (Ek (Up (MV a))) (AF (λ i=>PG i (Up (MV a)) i)) (PreS (ZL.mk (UC a) (Ys (MV a))))))) (Eh (not (Pd (Xr (ZL.mk (UC a) (Ys (MV a)))))) (gU a) (Gb (Ua a)) (HU (KU (gU a) (Zn (ZL.mk (UC a) (Ys (MV a))))) (λ i=>PL i (gU a) (KA (gU a) i) (Zn (ZL.mk (UC a) (Ys (MV a))))) (IM (Ua a))))))))))) := by kernel_rfl
theorem BEB (a : CZ) : (dX a).2 = ER a := by
 unfold dX
 cases h : (ER a == 0) with
 | true =>
  have : ER a = 0 := by simpa using h
  rw [this]; rfl
 | false => rfl
theorem BXF {a : CZ} (h : ER a = 0) : dX a = (T5 a, 0) := by unfold dX; rw [h]; rfl
theorem AOI {a : CZ} (h : ER a ≠ 0) : dX a = ([], ER a) := by
 unfold dX; rw [show (ER a == 0) = false by simpa using h]; rfl
theorem BFY {a : CZ} (h0 : AI a.c = 0) (hz : V6 a = true) (zl : a.z.length < 4611686018427387904) : PreS ⟨a, Sz a.c⟩ := by
 have hc := MA.1 h0
 refine ⟨h0, hz, zl, YU _, AXU hc, λ i hi => ?_⟩
 rw [wP (by rw [<- YU]; exact hi)]
 have := (yY hc i).1
 unfold I6 at this; omega
theorem BXO (a : CZ) (h : a.c.ms.length < 4611686018427387904 /\ a.c.ns.length < 4611686018427387904 /\ a.z.length < 4611686018427387904) : BJS a := by
 obtain ⟨l1, l2, l3⟩ := h
 rw [BMZ]<;> delta BI BF EN EB EA BY EL AF CN CO AS KA EC ET GW FK HV IB HK GV FU HC DV FW EY LD Oo SI CJ DN GB RU LO Up kQ Pd Bq ASI AFY AD CI AU FT GN AG GK AZ AX UB AE FA YO AW It BL BD AO AR DD BA VR BK JQ BO BJ CX BW BV AJ AQ AV Iv YR CK AN AL FO Ig AM Xx ES CG BC CW PM EZ OJ Kb EV EQ MV FH Af EW DU LL HR Br FZ GI UC GA GC QR KZ IM QP DY Ij MW Jv Kx DT LB OW MX SK GF LM HB EG IN WH KU OM OP PL RR MH XW HU XO WV MK RO WX WE Gm Mr Bz Io MO OO SV VH Cc US UM PG XQ Gv Eh Mg Gl Gf Ys Ua Zn Ek Hc gU UN Jr Gb fH; simp only [CC, eq_self, implies_true, forall_const, CL, Lv]
 refine ⟨⟨l1, l2⟩, λ h => ?_, λ h => ?_⟩
 ·have h : AI a.c ≠ 0 := by simpa using h
  have e : ER a = AI a.c := by unfold ER; rw [show (AI a.c == 0) = false by simpa using h]; rfl
  rw [AOI (by rw [e]; exact h), e]; exact ⟨rfl, rfl, rfl⟩
 have h0 : AI a.c = 0 := by simpa using h
 refine ⟨⟨l3, h0⟩, λ hz => ?_, λ hz => ⟨⟨l1, l2⟩, λ hs => ?_, λ hs => ?_⟩⟩
 ·have e : ER a = 2 := by unfold ER; rw [h0, hz]; rfl
  rw [AOI (by rw [e]; decide), e]; exact ⟨rfl, rfl, rfl⟩
 ·have hq : Hq a.c = false := by
   cases hq : Hq a.c with
   | false => rfl
   | true => rw [fV h0, hq] at hs; cases hs
  have e : ER a = 6 := by
   unfold ER IL; rw [h0, hz, Rp, hq]; rfl
  rw [AOI (by rw [e]; decide), e]; exact ⟨rfl, rfl, rfl⟩
 have hq : Hq a.c = true := by
  cases hq : Hq a.c with
  | true => rfl
  | false => rw [fV h0, hq] at hs; cases hs
 have et : IL (KB a) = (Fg (KB a) (Sz a.c), (Fg (KB a) (Sz a.c)).all He) := by
  unfold IL; rw [Rp, hq]; rfl
 refine ⟨⟨h0, BFY h0 hz l3⟩, λ hv => ?_, λ hv => ?_⟩
 ·have hb : (Fg (KB a) (Sz a.c)).all He = false := by
   cases hb : (Fg (KB a) (Sz a.c)).all He with
   | false => rfl
   | true => unfold Xr at hv; rw [hb] at hv; cases hv
  have e : ER a = 6 := by
   unfold ER; rw [h0, hz, et, hb]; rfl
  rw [AOI (by rw [e]; decide), e]; exact ⟨rfl, rfl, rfl⟩
 ·have hb : (Fg (KB a) (Sz a.c)).all He = true := by
   cases hb : (Fg (KB a) (Sz a.c)).all He with
   | true => rfl
   | false => unfold Xr at hv; rw [hb] at hv; cases hv
  have e : ER a = 0 := by
   unfold ER; rw [h0, hz, et, hb]; rfl
  have e2 : (Xr ⟨a, Sz a.c⟩).1 = T5 a := by
   unfold Xr T5; rw [hb, et]; rfl
  rw [BXF e, e2]; exact ⟨rfl, λ _ _ => ⟨rfl, rfl⟩, rfl⟩
theorem BAH : AK Try.prog xC (C_Times.spec dCZ) := VV C_Times BKQ [] [] BCE (λ _ => by kernel_rfl) (λ _ => AA bY (AA BOU (AA AVN (AA BOW (AA BOK AC))))) (λ a h => BXO a h) (λ _ => WY rfl rfl) _
end Go.Bal

namespace Go.Bal
open Go Go.Sym Go.Proofs
theorem ArcOk.ext2 {N M s : Nat -> Span} {n : Nat} (h : ArcOk N s n) (e : ∀ i, i <= n -> N i = M i) : ArcOk M s n := by
 refine ⟨λ i hi => by rw [<- e i hi]; exact h.ne i hi, λ g hg x hx => ?_, λ g hg y hy => ?_⟩
 ·rw [<- e (g + 1) (by omega)]; exact h.up g hg x (by rw [e g (by omega)]; exact hx)
 ·obtain ⟨x, h1, h2⟩ := h.down g hg y (by rw [e (g + 1) (by omega)]; exact hy)
  exact ⟨x, by rw [<- e g (by omega)]; exact h1, h2⟩
end Go.Bal

namespace Go.Bal
open Go Go.Sym Go.Proofs
theorem TrC.ext {c : Cht} {sp : Nat -> Bool} {u v : Nat -> Int} (hc : 1 <= c.ms.length) (h : TrC c sp u) (e : ∀ i, i < c.ms.length -> u i = v i) : TrC c sp v :=
 ⟨λ i hi => by rw [<- e i (by omega)]; exact h.at_ i hi, λ g hg => by rw [<- e g (by omega), <- e (g + 1) (by omega)]; exact h.gap g hg⟩
end Go.Bal
