/- Law ChartParted: what it looks at is so (no program in sight). -/
import Derived.Test.YtdbjalgfomknhaaChPa2
set_option linter.unusedVariables false
set_option linter.unusedSimpArgs false
namespace Go.Bal
open Go Go.Sym Go.Proofs
theorem BSP {t : Nat -> Int} {X : Int} (h0 : t 0 <= X) : ∀ n : Nat, X <= t n -> (∃ i, i <= n /\ t i = X) ∨ ∃ g, g < n /\ t g <= X - 1 /\ X + 1 <= t (g + 1)
 | 0, h => .inl ⟨0, Nat.le_refl _, by omega⟩
 | n + 1, h => by
  by_cases q : X <= t n
  ·rcases BSP h0 n q with ⟨i, a, b⟩ | ⟨g, a, b⟩
   ·exact .inl ⟨i, by omega, b⟩
   ·exact .inr ⟨g, by omega, b⟩
  ·by_cases e : t (n + 1) = X
   ·exact .inl ⟨n + 1, Nat.le_refl _, e⟩
   ·exact .inr ⟨n, by omega, by omega, by omega⟩
theorem CKM {c : Cht} (h : ChOk c) (hr : AS ⟨c, nilI⟩ = 0) {t : Nat -> Int} (ht : TrC c tJ t) {X : Int} (h0 : t 0 <= X) (h1 : X <= t (c.ms.length - 1)) : (CR ⟨⟨c, nilI⟩, X⟩).2 = 0 := by
 have hm := h.m
 rw [Bh hr]
 rcases (Rf (a := ⟨c, nilI⟩) h hr X).who with ⟨_, e, _⟩ | ⟨no, _⟩
 ·exact e
 ·exfalso
  rcases BSP h0 _ h1 with ⟨i, a, b⟩ | ⟨g, a, b, d⟩
  ·exact no _ ⟨t, ht, .inl ⟨i, by show i < c.ms.length; omega, b, rfl⟩⟩
  ·exact no _ ⟨t, ht, .inr ⟨g, by show g + 1 < c.ms.length; omega, ⟨b, d⟩, .inl rfl⟩⟩
structure PaF (x : PaI) : Prop where
 hs : StmB 0 ⟨x.bs, 0, 0⟩
 n : 1 <= (AB x).ms.length /\ (AB x).ms.length <= 12
 nn : (AB x).ns.length <= 12
 tl : (HE x).t.length = (AB x).ms.length /\ (HE x).s.length = (AB x).ms.length
 k : 0 <= AZ x /\ AZ x < (AB x).ms.length
 nl : (DM x).length <= 13
 tC : YU ⟨AO x, nilI⟩ = (CJ ⟨AO x, nilI⟩, 0)
 tA : YU ⟨DP x, nilI⟩ = (CJ ⟨DP x, nilI⟩, 0)
 tB : YU ⟨DV x, nilI⟩ = (CJ ⟨DV x, nilI⟩, 0)
 lC : (CJ ⟨AO x, nilI⟩).length = (AB x).ms.length
 lA : (CJ ⟨DP x, nilI⟩).length = (AZ x).toNat + 1
 lB : (CJ ⟨DV x, nilI⟩).length = (AB x).ms.length - (AZ x).toNat
 eA : ∀ i, i < (AZ x).toNat + 1 -> gD (CJ ⟨AO x, nilI⟩) i = gD (CJ ⟨DP x, nilI⟩) i
 eB : ∀ i, i < (AB x).ms.length - (AZ x).toNat -> gD (CJ ⟨AO x, nilI⟩) ((AZ x).toNat + i) = gD (CJ ⟨DV x, nilI⟩) i
 sC : (CR ⟨⟨AO x, nilI⟩, Ur x⟩).2 = 0
 sA : ¬ gD (HE x).t (AZ x).toNat < Ur x -> CR ⟨⟨DP x, nilI⟩, Ur x⟩ = CR ⟨⟨AO x, nilI⟩, Ur x⟩
 sB : gD (HE x).t (AZ x).toNat < Ur x -> CR ⟨⟨DV x, nilI⟩, Ur x⟩ = CR ⟨⟨AO x, nilI⟩, Ur x⟩
theorem CXI {a b v : Int} (h0 : 0 <= a) (h1 : a <= b) (h2 : b <= 20000) : a <= wr (a + KH v (wr (wr (b - a) + 1))) /\ wr (a + KH v (wr (wr (b - a) + 1))) <= b := by
 have e1 : wr (b - a) = b - a := FC (by omega) (by omega)
 have e2 : wr (b - a + 1) = b - a + 1 := FC (by omega) (by omega)
 rw [e1, e2]
 have p := CEK v (n := b - a + 1) (by omega)
 generalize KH v (b - a + 1) = P at *
 have e3 : wr (a + P) = a + P := FC (by omega) (by omega)
 rw [e3]; omega
theorem BAU {c : Cht} (hr : AS ⟨c, nilI⟩ = 0) : YU ⟨c, nilI⟩ = (CJ ⟨c, nilI⟩, 0) := by
 unfold YU; rw [hr]; rfl
theorem PaF.of {x : PaI} (hs0 : StmB 0 ⟨x.bs, 0, 0⟩) (hok : ChOk (AB x)) (ht : TrC (AB x) tJ (gD (HE x).t)) (hst : ∀ i, i < (AB x).ms.length -> (DZ (AB x) i).has (gD (HE x).s i))
  (l2 : (AB x).ms.length <= 12) (l5 : (AB x).ns.length <= (AB x).ms.length) (tl : (HE x).t.length = (AB x).ms.length /\ (HE x).s.length = (AB x).ms.length)
  (tb : ∀ i, i < (AB x).ms.length -> 0 <= gD (HE x).t i /\ gD (HE x).t i <= 20000) (sb : ∀ i, i < (AB x).ms.length -> -10000 <= gD (HE x).s i /\ gD (HE x).s i <= 10000) : PaF x := by
 have eK : AZ x = KH x.m (AB x).ms.length := by simp only [AZ]
 have eX : Ur x = wr (gD (HE x).t 0 + KH x.t (wr (wr (gD (HE x).t ((AB x).ms.length - 1) - gD (HE x).t 0) + 1))) := by simp only [Ur]
 have eE : SD x = ⟨AZ x, ⟨gD (HE x).t (AZ x).toNat, gD (HE x).t (AZ x).toNat⟩, ⟨gD (HE x).s (AZ x).toNat, gD (HE x).s (AZ x).toNat⟩⟩ := by simp only [SD]
 have eN : DM x = flN (AZ x) (AB x).ns (AB x).ns.length ++ [SD x] := by simp only [DM]
 have eC : AO x = ⟨(AB x).p, (AB x).base, (AB x).scale, (AB x).off, (AB x).ms, DM x⟩ := by simp only [AO]
 have eMA : QA x = AE ((AZ x).toNat + 1) λ i => gD (AB x).ms i := by simp only [QA]
 have eMB : PS x = AE ((AB x).ms.length - (AZ x).toNat) λ i => gD (AB x).ms ((AZ x).toNat + i) := by simp only [PS]
 have eA : DP x = ⟨(AB x).p, (AB x).base, (AB x).scale, (AB x).off, QA x, Dl (AZ x) (DM x) (DM x).length⟩ := by simp only [DP]
 have eB : DV x = ⟨(AB x).p, (AB x).base, (AB x).scale, (AB x).off, PS x, YI (AZ x) (DM x) (DM x).length⟩ := by simp only [DV]
 have hm := hok.m
 have pk := CEK x.m (n := ((AB x).ms.length : Int)) (by omega)
 rw [<- eK] at pk
 have main : (0 <= AZ x /\ AZ x < (AB x).ms.length) /\ ((DM x).length <= 13) /\ (YU ⟨AO x, nilI⟩ = (CJ ⟨AO x, nilI⟩, 0)) /\ (YU ⟨DP x, nilI⟩ = (CJ ⟨DP x, nilI⟩, 0)) /\ (YU ⟨DV x, nilI⟩ = (CJ ⟨DV x, nilI⟩, 0)) /\ ((CJ ⟨AO x, nilI⟩).length = (AB x).ms.length) /\ ((CJ ⟨DP x, nilI⟩).length = (AZ x).toNat + 1) /\ ((CJ ⟨DV x, nilI⟩).length = (AB x).ms.length - (AZ x).toNat) /\ (∀ i, i < (AZ x).toNat + 1 -> gD (CJ ⟨AO x, nilI⟩) i = gD (CJ ⟨DP x, nilI⟩) i) /\ (∀ i, i < (AB x).ms.length - (AZ x).toNat -> gD (CJ ⟨AO x, nilI⟩) ((AZ x).toNat + i) = gD (CJ ⟨DV x, nilI⟩) i) /\ ((CR ⟨⟨AO x, nilI⟩, Ur x⟩).2 = 0) /\ (¬ gD (HE x).t (AZ x).toNat < Ur x -> CR ⟨⟨DP x, nilI⟩, Ur x⟩ = CR ⟨⟨AO x, nilI⟩, Ur x⟩) /\ (gD (HE x).t (AZ x).toNat < Ur x -> CR ⟨⟨DV x, nilI⟩, Ur x⟩ = CR ⟨⟨AO x, nilI⟩, Ur x⟩) := by
  clear eK
  generalize Ur x = X at *
  generalize AZ x = K at *
  generalize DP x = A at *
  generalize DV x = B at *
  generalize QA x = MA at *
  generalize PS x = MB at *
  generalize AO x = D at *
  generalize DM x = N at *
  generalize SD x = E at *
  generalize AB x = C at *
  generalize HE x = T at *
  subst eMA eMB
  obtain ⟨k, rfl⟩ : ∃ k : Nat, K = k := ⟨K.toNat, by omega⟩
  rw [Int.toNat_natCast] at *
  have hk : k < C.ms.length := by omega
  have tk := tb k hk
  have sk := sb k hk
  have eEm : E.mi = (k : Int) := by rw [eE]
  have eN2 : N = (nwC C E).ns := by
   rw [eN, CKV _ _ _ (Nat.le_refl _), List.take_length]; unfold nwC; rw [eEm]
  have eD : D = nwC C E := by rw [eC, eN2]; rfl
  have hE : NtOk C.ms.length E := by
   rw [eE]
   refine ⟨?_, ?_, ?_⟩ <;> dsimp only <;> omega
  have okD : ChOk D := by rw [eD]; exact DAP hok hE (by omega)
  have mD : D.ms = C.ms := by rw [eD]; rfl
  have nD : D.ns = N := by rw [eC]
  have eA2 : A = fsC D k := by rw [eA, CMC _ _ _ (Nat.le_refl _), List.take_length, eC]; rfl
  have eB2 : B = snC D k := by rw [eB, CMX _ _ _ (Nat.le_refl _), List.take_length, eC]; rfl
  have tD : TrC D tJ (gD T.t) := by
   rw [eD]; exact CZJ hok ht eEm hk (by rw [eE]; exact ⟨Int.le_refl _, Int.le_refl _⟩)
  have sD : stgOk D = true := by
   rw [eD]; exact CVF hok hst eEm hk (by rw [eE]; exact ⟨Int.le_refl _, Int.le_refl _⟩)
  have ex : ∃ v, ∀ y, (FT D k).has y -> y = v := ⟨gD T.t k, λ y hy => by
   rw [eD, <- eEm, (nw_e hok.dif E).1, eE] at hy
   have h1 : gD T.t k <= y := hy.1
   have h2 : y <= gD T.t k := hy.2
   omega⟩
  have hkD : k < D.ms.length := by rw [mD]; exact hk
  have H := prH okD hkD ex
  rw [<- eA2, <- eB2] at H
  obtain ⟨rc, ra, rb⟩ := H.read sD tD
  have x0 : gD T.t 0 <= X /\ X <= gD T.t (C.ms.length - 1) := by
   rw [eX]
   exact CXI (tb 0 (by omega)).1 (ht.le hok (Nat.zero_le _) (by omega)) (tb _ (by omega)).2
  have nl : N.length <= 13 := by
   rw [eN, List.length_append, List.length_singleton]
   have := BLW (k : Int) C.ns C.ns.length
   omega
  refine ⟨pk, nl, BAU rc, BAU ra, BAU rb, ?_, ?_, ?_, λ i hi => H.timA sD tD (by omega), λ i hi => H.timB sD tD (by rw [mD]; omega), ?_, λ h => (H.stageA sD tD (by omega)).symm, λ h => (H.stageB sD tD h).symm⟩
  ·rw [Dq (a := ⟨D, nilI⟩) rc]; show D.ms.length = _; rw [mD]
  ·rw [Dq (a := ⟨A, nilI⟩) ra]; exact H.la
  ·rw [Dq (a := ⟨B, nilI⟩) rb]; show B.ms.length = _; rw [H.lb, mD]
  ·exact CKM okD rc tD x0.1 (by rw [mD]; exact x0.2)
 obtain ⟨q1, q2, q3, q4, q5, q6, q7, q8, q9, q10, q11, q12, q13⟩ := main
 exact ⟨hs0, ⟨hm.1, l2⟩, by omega, tl, q1, q2, q3, q4, q5, q6, q7, q8, q9, q10, q11, q12, q13⟩
theorem CHP (x : PaI) (hb : ∀ i, i < x.bs.length -> 0 <= gD x.bs i /\ gD x.bs i <= 255) : PaF x := by
 have hpre : preM (paM x) := COS hb (by omega)
 have hM := DAG hpre
 have hz : (tK (paM x)).z = [] := hM.zn rfl
 have hT : TrC (AB x) tJ (gD (HE x).t) := hM.tr tJ (λ g hg => by rw [hz] at hg; cases hg)
 have l2 : ((AB x).ms.length : Int) <= 12 := hM.len.1.2
 exact PaF.of (CWE hb) hM.ok hT hM.st (by omega) hM.len.2.2.2 ⟨hM.len.2.1, hM.len.2.2.1⟩ hM.tb hM.sb
end Go.Bal
