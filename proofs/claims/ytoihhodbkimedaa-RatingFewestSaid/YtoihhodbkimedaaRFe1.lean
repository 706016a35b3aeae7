/- Law RatingFewest: its walk goes through. -/
import Derived.Test.YtoihhodbkimedaaRFe
set_option linter.unusedVariables false
set_option linter.unusedSimpArgs false
namespace Go.Bal
open Go Go.Sym Go.Proofs
theorem AOG (s : Stm) : Stm.mk s.bs s.used s.mix = s := rfl
theorem BXG {x : FwI} (h : okBy x.bs) (h2 : okBy x.cs) {k : Nat} (hk : k <= (fxG x).length) : (fxK x k).l.length = (fxG x).length := (AVB h h2 k hk).1
theorem BZZ (z : FwE) (h : okBy z.x.bs) (h2 : okBy z.x.cs) : BYQ z := by
 rw [CDF]<;> delta GH HK FK KN FA AO AT CX AG CG CM EM BK DB DW DT QP PD RO FM PQ Ah YC TU DM GP EF Il KT WH Ie Is bO bX Xk gV pN Iu Sc BCE ZB AIT ASS KK AE VZ KC yB FQ AJ AP DR AK BO BAS ABL Ep Ka QS AJV DK AX AQ AH AIS BH CY BN CL CZ CA DP FT GI AC BB ED IG WA Y3 QK HI CQ EP DF CF FC Lk DG EN AW AY QI CJ DE DN AS EO ZI DS DY CD ON JM EU FE AAW DV HP CE CO IA pL JE AAI IF pI MZ Ad Cv LQ FH NA XF Px BC BI oA EZ ER BJ ET FZ GZ Ki DH TN FX CN OB NZ PO Gb HX JU VN TO LP MJ TL ANI yU YM Tp VB mE nD tV Hs; simp only [CC, eq_self, implies_true, forall_const, AOG]
 have hn := (AKW z.x h).1
 refine ⟨⟨rfl, ⟨⟨Int.le_refl _, Int.le_refl _⟩, ⟨Int.le_refl _, by show (0 : Int) < 251; omega⟩, h⟩, by omega, by omega⟩, ⟨⟨0, fxK z.x 0⟩, ⟨rfl, rfl, rfl, λ _ _ => ⟨rfl, rfl, rfl⟩, rfl, λ _ _ => rfl, rfl, rfl⟩, Nat.zero_le _, rfl⟩, λ a ⟨h3, h4⟩ => ⟨λ hlt => ?_, λ hge => ?_⟩⟩
 ·have hlt : a.k < (fxG z.x).length := by omega
  obtain ⟨a1, a2, a3⟩ := AVB h h2 a.k h3
  rw [<- h4] at a1 a2 a3
  have u1 := (a3.next (by omega) 4).used.1
  have u2 := ((a3.next (by omega) 4).next (by omega) 150).used.1
  have e1 : fxK z.x (a.k + 1) = spY a.y a.k := by rw [h4]; rfl
  refine ⟨⟨rfl, a3.used.1⟩, λ hz => ⟨⟨rfl, u1, ⟨by omega, by omega⟩, hlt⟩, ⟨⟨by omega, by omega⟩, hlt, rfl, u2, ⟨by omega, by omega⟩, hlt⟩, ⟨a.k + 1, spY a.y a.k⟩, ?_, ⟨by show a.k + 1 <= _; omega, e1.symm⟩, by show (fxG z.x).length - (a.k + 1) < _; omega⟩, λ hz => ⟨⟨a.k + 1, spY a.y a.k⟩, ?_, ⟨by show a.k + 1 <= _; omega, e1.symm⟩, by show (fxG z.x).length - (a.k + 1) < _; omega⟩⟩
  ·unfold spY; rw [hz]
   refine ⟨(EQ (by omega)).symm, λ i hi => ?_, rfl, λ _ _ => rfl, rfl, rfl⟩
   show (gD (a.y.l.set a.k _) i).st = _ /\ (gD (a.y.l.set a.k _) i).lo = _ /\ (gD (a.y.l.set a.k _) i).hi = _
   rw [BFF (by omega)]
   by_cases e : i = a.k
   ·subst e; simp; exact ⟨rfl, rfl, rfl⟩
   ·simp [e]
  ·unfold spY; rw [hz]
   exact ⟨(EQ (by omega)).symm, λ _ _ => ⟨rfl, rfl, rfl⟩, rfl, λ _ _ => rfl, rfl, rfl⟩
 ·have e : a.y = fxK z.x (fxG z.x).length := by rw [h4, show a.k = (fxG z.x).length by omega]
  have el : Fi z.x = a.y.l := by rw [e]; rfl
  have es : fxS z.x = a.y.s := by rw [e]; rfl
  rw [el, es]
  exact ⟨default, by rw [<- el]; exact BXG h h2 (Nat.le_refl _), Nat.le_refl _, λ _ _ => ⟨rfl, rfl, rfl⟩, rfl, λ _ _ => rfl, rfl, rfl⟩
end Go.Bal
