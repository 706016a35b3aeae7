/- Law ChartLater: what is asked is so, of charts that are made. -/
import Derived.Test.YtdbjalgfomknhaaChLa1
set_option linter.unusedVariables false
set_option linter.unusedSimpArgs false
namespace Go.Bal
open Go Go.Sym Go.Proofs
structure LaF (x : LaI) : Prop where
 hs : StmB 0 ⟨x.bs, 0, 0⟩
 n1 : 1 <= (AO x).ms.length /\ (AO x).ms.length <= 12
 n2 : (AO x).ns.length <= 12
 n3 : (PD x).t.length = (AO x).ms.length
 fe : (DA (AO x)).e = 0
 on : 0 <= IV x /\ IV x <= 100000
 tm : wr (PH x + IV x) = PH x + IV x /\ wr (PH x + 90) = PH x + 90 /\ wr (PH x + IV x + 90) = PH x + 90 + IV x
 fo : 0 < (AO x).ns.length -> (DA (CG x)).e = 0 /\ (DA (CG x)).q.length = (DA (AO x)).q.length
 k : 0 < (AO x).ns.length -> LaK (AO x) (IV x) (PM x)
theorem CTU {t p d : Int} (h0 : 0 <= t /\ t <= 20000) (h1 : 0 <= p /\ p < 300) (h2 : 0 <= d /\ d <= 100000) : wr (wr (t + p) + d) = wr (t + p) + d /\ wr (wr (t + p) + 90) = wr (t + p) + 90 /\ wr (wr (t + p) + d + 90) = wr (t + p) + 90 + d := by
 have e : wr (t + p) = t + p := CP (by omega) (by omega)
 rw [e]
 have e1 : wr (t + p + d) = t + p + d := CP (by omega) (by omega)
 have e2 : wr (t + p + 90) = t + p + 90 := CP (by omega) (by omega)
 have e3 : wr (t + p + d + 90) = t + p + d + 90 := CP (by omega) (by omega)
 rw [e1, e2, e3]
 exact ⟨rfl, rfl, by omega⟩
theorem LaG.few {c : Cht} {on up : Int} (h : LaG c on up) (hs : stgOk c = true) {sp : Nat -> Bool} {t : Nat -> Int} (hT : TrC c sp t) (hb : ∀ i, i < c.ms.length -> 0 <= t i /\ t i <= 20000) : (DA (YU c on up)).e = 0 /\ (DA (YU c on up)).q.length = (DA c).q.length := by
 have H := h.laH
 have onb := h.onb
 have hm := h.ok.m
 have hT2 : TrC (YU c on up) sp λ i => t i + on := by
  refine ⟨λ i hi => ?_, λ g hg => ?_⟩
  ·have hi : i < c.ms.length := by have hi : i <= c.ms.length - 1 := hi; omega
   show (IN (YU c on up) (i : Int)).has (t i + on)
   cases e : hasN c.ns (i : Int) with
   | true => rw [H.nt _ e, vR, show t i + on - on = t i by omega]; exact hT.note hi
   | false =>
    rw [(I0 H.ho (i : Int)).2 (by rw [H.has]; exact e)]
    have := hb i hi
    show -100000000 <= t i + on /\ t i + on <= 100000000
    omega
  ·have q := hT.gap g hg
   show (TG c sp g).has (t (g + 1) + on - (t g + on))
   rw [show t (g + 1) + on - (t g + on) = t (g + 1) - t g by omega]; exact q
 have so : stgOk (YU c on up) = true := by rw [H.stgOk]; exact hs
 have f1 := BLM h.ok hs hT
 have f2 := BLM H.ho so hT2
 refine ⟨f2.1, ?_⟩
 rw [f2.2.1, f1.2.1]
 unfold Dg
 rw [h.same.len, h.same.fw _ (Nat.le_refl _)]
theorem CIO (x : LaI) (hb : ∀ i, i < x.bs.length -> 0 <= gD x.bs i /\ gD x.bs i <= 255) : LaF x := by
 have hpre : preM (laM x) := CNU hb (by omega)
 have hM := CYU hpre
 have hok : ChOk (AO x) := hM.ok
 obtain ⟨hrd, hT⟩ := hM.read (z := (PD x).z) hM.z (λ g hg => hg)
 have hT : TrC (AO x) (AH ⟨AO x, (PD x).z⟩).sp (gD (PD x).t) := hT
 have l1 : 1 <= (AO x).ms.length := hM.len.1.1
 have l2 : ((AO x).ms.length : Int) <= 12 := hM.len.1.2
 have l3 : (PD x).t.length = (AO x).ms.length := hM.len.2.1
 have l5 : (AO x).ns.length <= (AO x).ms.length := hM.len.2.2.2
 have tb : ∀ i, i < (AO x).ms.length -> 0 <= gD (PD x).t i /\ gD (PD x).t i <= 20000 := hM.tb
 have hst : stgOk (AO x) = true := hM.stg
 have bd : (-50 <= (AO x).base /\ (AO x).base <= 400) /\ (0 <= (AO x).scale /\ (AO x).scale <= 11) /\ (0 <= (AO x).off /\ (AO x).off <= 8) /\ (AO x).p.hi <= 17 := ⟨hM.bd.1, hM.bd.2.1, hM.bd.2.2.1, hM.bd.2.2.2.2⟩
 have nt : ∀ n ∈ (AO x).ns, inN n := λ n hn => by
  obtain ⟨j, j1, j2, ⟨j3, j4⟩, ⟨j5, j6⟩, ⟨j7, j8⟩, j9, j10⟩ := hM.nt n hn
  exact ⟨⟨j5, Int.le_trans j3 j4, j6⟩, j9, Int.le_trans j7 j8, j10⟩
 have hs0 : StmB 0 ⟨x.bs, 0, 0⟩ := CUU hb
 clear hM hpre hb hrd
 have hD : 0 <= IV x /\ IV x < 100000 := BOJ x.d (n := 100000) (by decide)
 have hU : 0 <= PM x /\ PM x < 1000 := BOJ x.r (n := 1000) (by decide)
 have eX : PH x = wr (gD (PD x).t 0 + FQ x.t 300) := by simp only [PH]
 have eO : CG x = YU (AO x) (IV x) (PM x) := by simp only [CG, YU]
 have p3 := BOJ x.t (n := 300) (by decide)
 have main : StmB 0 ⟨x.bs, 0, 0⟩ /\ (1 <= (AO x).ms.length /\ (AO x).ms.length <= 12) /\ ((AO x).ns.length <= 12) /\ ((PD x).t.length = (AO x).ms.length) /\ ((DA (AO x)).e = 0) /\ (0 <= IV x /\ IV x <= 100000) /\ (wr (PH x + IV x) = PH x + IV x /\ wr (PH x + 90) = PH x + 90 /\ wr (PH x + IV x + 90) = PH x + 90 + IV x) /\ (0 < (AO x).ns.length -> (DA (CG x)).e = 0 /\ (DA (CG x)).q.length = (DA (AO x)).q.length) /\ (0 < (AO x).ns.length -> LaK (AO x) (IV x) (PM x)) := by
  generalize AO x = C at *
  generalize PD x = T at *
  generalize IV x = D at *
  generalize PM x = U at *
  generalize PH x = X at *
  generalize CG x = O at *
  generalize FQ x.t 300 = P at *
  have g : 0 < C.ns.length -> LaG C D U := λ h => ⟨hok, nt, h, bd, by omega, by omega⟩
  refine ⟨hs0, ⟨l1, by omega⟩, by omega, l3, (BLM hok hst hT).1, by omega, ?_, λ h => ?_, λ h => (g h).laK⟩
  ·rw [eX]; exact CTU (tb 0 (by omega)) p3 (by omega)
  ·rw [eO]; exact (g h).few hst hT tb
 obtain ⟨q1, q2, q3, q4, q5, q6, q7, q8, q9⟩ := main
 exact ⟨q1, q2, q3, q4, q5, q6, q7, q8, q9⟩
end Go.Bal
