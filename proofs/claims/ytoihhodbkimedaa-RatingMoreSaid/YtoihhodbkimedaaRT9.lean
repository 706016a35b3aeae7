/- Package rating: a gauging more, wider spans (no program in sight). -/
import Derived.Test.YtoihhodbkimedaaRT7
import Derived.Test.YtoihhodbkimedaaRatZ
set_option linter.unusedVariables false
set_option linter.unusedSimpArgs false
namespace Go.Bal
open Go Go.Sym Go.Proofs
theorem bdS_sub {s u : List Gau} {t : Int} (hs : ∀ g ∈ s, okG g) (hu : ∀ g ∈ u, okG g) (ht : 0 <= t /\ t <= 2000) (hp : ∀ y, okL y -> (rlL y).passes u -> (rlL y).passes s) (hne : lnsM u t ≠ []) : leR (bdS s t).lo (bdS u t).lo /\ leR (bdS u t).hi (bdS s t).hi := by
 obtain ⟨⟨z, oz, pz, ez⟩, y, oy, py, ey⟩ := bdS_ends hu hne
 have h1 := bdS_lo hs ht (rlL_ok oz) (hp z oz pz)
 have h2 := bdS_hi hs ht (rlL_ok oy) (hp y oy py)
 have hn : lnsM s t ≠ [] := lns_ne hs ht (rlL_ok oz) (hp z oz pz)
 obtain ⟨i1, i2, _⟩ := bdS_in hs ht hn
 rw [ez, ey]
 exact ⟨(le_flow oz i1.1.1).2 h1, (flow_le oy i2.1.1).2 h2⟩
theorem flow_cases {g : List Gau} {b : List Int} (h : openE ⟨g, b⟩ = 0) {t : Int} (ht : 0 <= t /\ t <= 2000) : flowE ⟨g, b, t⟩ = 6 ∨ (flowE ⟨g, b, t⟩ = 0 /\ lnsM (partS g b (leC b t)) t ≠ [] /\ flowB ⟨g, b, t⟩ = bdS (partS g b (leC b t)) t) := by
 have hT : inT ⟨g, b, t⟩ = true := by unfold inT inM; simpa using ht
 by_cases hn : lnsM (partS g b (leC b t)) t = []
 ·left
  unfold flowE
  rw [show openE (gbt ⟨g, b, t⟩) = 0 from h, hT, decide_eq_true (show (lB (bkT ⟨g, b, t⟩)).length = 0 from by rw [show lB (bkT ⟨g, b, t⟩) = lnsM (partS g b (leC b t)) t from rfl, hn]; rfl)]
  rfl
 ·right
  have e : flowE ⟨g, b, t⟩ = 0 := by
   unfold flowE
   rw [show openE (gbt ⟨g, b, t⟩) = 0 from h, hT, decide_eq_false (show ¬(lB (bkT ⟨g, b, t⟩)).length = 0 from λ hc => hn (List.eq_nil_of_length_eq_zero hc))]
   rfl
  refine ⟨e, hn, ?_⟩
  unfold flowB; rw [e]; rfl
theorem part_sub {g u : List Gau} (h : ∀ x ∈ g, x ∈ u) (b : List Int) (k : Int) : ∀ x ∈ partS g b k, x ∈ partS u b k := λ x hx => by
 obtain ⟨h1, h2⟩ := part_mem.1 hx
 exact part_mem.2 ⟨h x h1, h2⟩
structure Wid (g w : List Gau) : Prop where
 len : w.length = g.length
 at_ : ∀ i, i < g.length -> (gD w i).st = (gD g i).st /\ (gD w i).lo <= (gD g i).lo /\ (gD g i).hi <= (gD w i).hi
theorem Wid.pass {g w : List Gau} (h : Wid g w) (b : List Int) (k : Int) {y : Ln} (hy : okL y) (hp : (rlL y).passes (partS g b k)) : (rlL y).passes (partS w b k) := λ x hx => by
 obtain ⟨h1, h2⟩ := part_mem.1 hx
 obtain ⟨i, hi, rfl⟩ := mem_gD h1
 rw [h.len] at hi
 obtain ⟨a1, a2, a3⟩ := h.at_ i hi
 obtain ⟨p1, p2⟩ := hp (gD g i) (part_mem.2 ⟨gD_mem hi, by rw [<- a1]; exact h2⟩)
 have hw := (rlL_ok hy).1
 unfold Rl.pass
 rw [a1]
 exact ⟨Int.le_trans (Int.mul_le_mul_of_nonneg_right a2 (Int.le_of_lt hw)) p1, Int.le_trans p2 (Int.mul_le_mul_of_nonneg_right a3 (Int.le_of_lt hw))⟩
theorem Wid.thru {g w : List Gau} (h : Wid g w) (ho : ∀ x ∈ w, okG x) {b : List Int} (hT : Thru g b) : Thru w b :=
 ⟨by rw [h.len]; exact hT.len, ho, hT.asc, hT.brk, hT.few, λ k hk => by
  obtain ⟨x, h1, h2⟩ := hT.thru k hk
  exact ⟨x, h1, h.pass b k h1 h2⟩⟩
theorem more_flow {g u : List Gau} {b : List Int} (hT : Thru g b) (hs : ∀ x ∈ g, x ∈ u) (hu : 1 <= u.length /\ u.length <= 24) (ho : ∀ x ∈ u, okG x) {t : Int} (ht : 0 <= t /\ t <= 2000) : flowE ⟨u, b, t⟩ = 6 ∨ (flowE ⟨u, b, t⟩ = 0 /\ okR (flowB ⟨u, b, t⟩).lo /\ okR (flowB ⟨u, b, t⟩).hi /\ sndM (flowB ⟨u, b, t⟩) = true /\ leR (flowB ⟨g, b, t⟩).lo (flowB ⟨u, b, t⟩).lo /\ leR (flowB ⟨u, b, t⟩).hi (flowB ⟨g, b, t⟩).hi) := by
 rcases flow_cases (open_zero hu ho hT.asc hT.brk hT.few) ht with h | ⟨h1, h2, h3⟩
 ·exact .inl h
 ·have hp := bdS_sub (part_ok hT.ok) (part_ok ho) ht (λ y _ hy x hx => hy x (part_sub hs b _ x hx)) h2
  have hi := bdS_in (part_ok ho) ht h2
  rw [h3, (hT.flow ht).2]
  exact .inr ⟨h1, hi.1, hi.2.1, snd_ok hi.1 hi.2.1 hi.2.2, hp⟩
theorem wide_flow {g w : List Gau} {b : List Int} (hT : Thru g b) (h : Wid g w) (ho : ∀ x ∈ w, okG x) {t : Int} (ht : 0 <= t /\ t <= 2000) : leR (flowB ⟨w, b, t⟩).lo (flowB ⟨g, b, t⟩).lo /\ leR (flowB ⟨g, b, t⟩).hi (flowB ⟨w, b, t⟩).hi := by
 rw [(hT.flow ht).2, ((h.thru ho hT).flow ht).2]
 exact bdS_sub (part_ok ho) (part_ok hT.ok) ht (λ y oy hy => h.pass b _ oy hy) (hT.ne (leC_le _ _) ht)
theorem more_few {g u : List Gau} {b : List Int} (hT : Thru g b) (hs : ∀ x ∈ g, x ∈ u) (hu : 1 <= u.length /\ u.length <= 24) (ho : ∀ x ∈ u, okG x) : (fewM u).e = 6 ∨ ((fewM u).e = 0 /\ (fewM g).r.l.length <= (fewM u).r.l.length) := by
 have hc := check_zero hT.len hT.ok
 obtain ⟨_, hW, _⟩ := few_thru hc hT.can
 rcases few_ok (check_zero hu ho) with ⟨h, _⟩ | ⟨h1, h2⟩
 ·exact .inl h
 ·have := hW.least (c := (fewM u).r.b) (λ i hi => Can.mono (t := partS u (fewM u).r.b i) ⟨_, (h2.pass i hi).1, (h2.pass i hi).2⟩ (part_sub hs _ _))
  exact .inr ⟨h1, by rw [hW.lenl, h2.lenl]; omega⟩
theorem wide_few {g w : List Gau} {b : List Int} (hT : Thru g b) (h : Wid g w) (ho : ∀ x ∈ w, okG x) : (fewM w).e = 0 /\ (fewM w).r.l.length <= (fewM g).r.l.length := by
 have hc := check_zero hT.len hT.ok
 obtain ⟨_, hW, _⟩ := few_thru hc hT.can
 have hT2 := h.thru ho (hW.thru hc)
 obtain ⟨e, hV, hle⟩ := few_thru (check_zero hT2.len hT2.ok) hT2.can
 exact ⟨e, by rw [hW.lenl, hV.lenl]; omega⟩
end Go.Bal

namespace Go.Bal
open Go Go.Sym Go.Proofs
def C_cpG : Ctr := { α := List Gau, xs := λ l => [.d (eGaus l)], L := λ _ => [], val := λ l => .own 0 3 0 l.length, keep := λ l => [(0, .live (rowG l))], pre := λ l => [0 < l.length /\ l.length < 1073741824] }
def A_cpG : Ann := { ann 7 [] with mt := λ id => id == 2 }
def V_cpG (l : List Gau) : Prop := fnVC Try.prog A_cpG F_copyG (bodyOf F_copyG) (C_cpG.xs l) (heapOf []) (C_cpG.val l) (C_cpG.keep l) [(0, 3032)] []
theorem vc_cpG (l : List Gau) : (V_cpG l) = (((True /\ (0 < 0 -> 0 = 3)) /\ (True /\ (0 < l.length -> 3 = 3)) /\ (true = true -> 0 < l.length) /\ 0 + l.length <= 9223372036854775807 /\ (0 + l.length) * 24 <= 140737488355328) /\ 0 =
 0 /\ l.length = 0 + l.length /\ l.length = 0 + l.length /\ ∀ (i : Nat), i < l.length -> (gD l i).st = (gD l (i - 0)).st /\ (gD l i).lo = (gD l (i - 0)).lo /\ (gD l i).hi = (gD l (i - 0)).hi) := by kernel_rfl
theorem ok_cpG : SpecOk Try.prog n_copyG (C_cpG.spec dGs1) := okC C_cpG (λ _ => A_cpG) [(0, 3032)] [] fn_copyG (λ _ => by kernel_rfl) (λ _ => gok_nil) (λ (l : List Gau) h => by
 show V_cpG l; rw [vc_cpG]; simp only [condP, eq_self, implies_true, and_self, true_and, and_true, true_implies, forall_const, decide_eq_true_eq, decide_eq_false_iff_not, Int.toNat_natCast, dSpan_eSpan, dInt_eInt, dGau_e, dPt_e, dLn_e, dRt_e, Nat.zero_add, Int.zero_sub, Nat.le_eq, Nat.succ_eq_add_one, Nat.add_one_le_iff, Bool.not_eq_true', Bool.not_eq_false', rng_length, dSpan_mk, rng_getD]
 obtain ⟨h1, h2⟩ : 0 < l.length /\ l.length < 1073741824 := h
 exact ⟨⟨by omega, h1, by omega, by omega⟩, λ _ _ => ⟨rfl, rfl, rfl⟩⟩) (λ _ => noI rfl rfl) _
end Go.Bal
