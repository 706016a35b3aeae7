/- Nets that are made of numbers: they are right, and what they were made of can be. -/
import Derived.Test.YtonddbmhljelgaaBalT16
import Derived.Test.YtonddbmhljelgaaBalMk2
set_option linter.unusedVariables false
set_option linter.unusedSimpArgs false
namespace Go.Bal
open Go Go.Sym
theorem flowM_of {s : Span} (h1 : -1000000 ≤ s.lo) (h2 : s.lo ≤ s.hi) (h3 : s.hi ≤ 1000000) : flowM s = true := flowM_iff.2 ⟨⟨h1, h2⟩, h3⟩
theorem first0_all {e : Nat → Int} : ∀ (n k : Nat), (∀ i, k ≤ i → i < k + n → e i = 0) → first0 e n k = 0
  | 0, _, _ => rfl
  | n + 1, k, h => by
    simp only [first0]
    rw [if_pos (h k (by omega) (by omega))]
    exact first0_all n (k + 1) fun i h1 h2 => h i (by omega) (by omega)
theorem check_good {N : NetL} (h : Good N) : checkL N = 0 := by
  rw [checkL_some ⟨h.g1, h.g8, h.r14⟩, if_pos (allB_iff.2 fun i hi => by have := h.g i hi; exact flowM_of (by omega) (by omega) (by omega))]
  refine first0_all _ _ fun i _ hi => ?_
  obtain ⟨a, b, c, d⟩ := h.r i (by omega)
  have hn : ((netF N).nG : Int) = N.g.length := rfl
  unfold badR
  rw [hn, if_neg, if_pos (flowM_of (by omega) (by omega) (by omega))]
  simp only [Bool.or_eq_true, Bool.not_eq_true', decide_eq_true_eq, not_or, Bool.not_eq_false]
  exact ⟨⟨inM_iff.2 (by omega), inM_iff.2 (by omega)⟩, d⟩
structure MI (st : Int) (a : MS) : Prop where
  len : a.r.length = a.f.length
  m : a.m.length = st.toNat
  r : ∀ i, i < a.r.length → ((0 ≤ (gD a.r i).fr ∧ (gD a.r i).fr < st) ∧ (0 ≤ (gD a.r i).to ∧ (gD a.r i).to < st) ∧ (gD a.r i).fr ≠ (gD a.r i).to) ∧ (-20 ≤ gD a.f i ∧ gD a.f i ≤ 120) ∧ gD a.f i - 8 ≤ (gD a.r i).sp.lo ∧ (gD a.r i).sp.lo ≤ gD a.f i ∧ gD a.f i ≤ (gD a.r i).sp.hi ∧ (gD a.r i).sp.hi ≤ gD a.f i + 8
  bal : ∀ j : Nat, (j : Int) < st → gD a.m j = sumN a.r.length fun i => bS j (gD a.r i) (gD a.f i)
theorem bS_bd {s : Int} {r : Reach} {f : Int} (h : -20 ≤ f ∧ f ≤ 120) : -120 ≤ bS s r f ∧ bS s r f ≤ 120 := by
  unfold bS; split <;> (try split) <;> omega
theorem sumN_bd {f : Nat → Int} {K : Int} : ∀ {n : Nat}, (∀ i, i < n → -K ≤ f i ∧ f i ≤ K) → -(K * n) ≤ sumN n f ∧ sumN n f ≤ K * n
  | 0, _ => by simp [sumN]
  | n + 1, h => by
    have h1 := sumN_bd (n := n) fun i hi => h i (by omega)
    have h2 := h n (by omega)
    have h3 : (K * ((n + 1 : Nat) : Int)) = K * n + K := by rw [Int.natCast_add, Int.mul_add]; omega
    rw [h3]; simp only [sumN]; omega
theorem MI.bd {st : Int} {a : MS} (h : MI st a) (hr : a.r.length ≤ 14) {j : Nat} (hj : (j : Int) < st) : -1680 ≤ gD a.m j ∧ gD a.m j ≤ 1680 := by
  rw [h.bal j hj]
  have := sumN_bd (K := 120) (n := a.r.length) (f := fun i => bS j (gD a.r i) (gD a.f i)) fun i hi => bS_bd (h.r i hi).2.1
  omega
theorem MI.step {st K : Int} (hst : 2 ≤ st ∧ st ≤ 8) {a : MS} (hs : StmB K a.s) (hK : K ≤ 100000000000000) (hr : a.r.length ≤ 13) (h : MI st a) : MI st (madeR st a) := by
  have M := madeR_ok hst hs hK
  obtain ⟨n1, n2, n3⟩ := mr_len st a
  have hfr := M.fr
  have hto := M.to
  have hne := M.ne
  have hv := M.v
  have hlo := M.lo
  have hhi := M.hi
  have hl := h.len
  have hm := h.m
  have elo : wr (madeV st a - nextV (madeY st a) 9) = madeV st a - nextV (madeY st a) 9 := w64 (by omega) (by omega)
  have ehi : wr (madeV st a + nextV (nextS (madeY st a) 9) 9) = madeV st a + nextV (nextS (madeY st a) 9) 9 := w64 (by omega) (by omega)
  have lo : ∀ i, i < a.r.length → gD (madeR st a).r i = gD a.r i ∧ gD (madeR st a).f i = gD a.f i := fun i hi => by
    obtain ⟨x1, x2, x3, x4⟩ := mr_r st a (i := i) (by omega)
    have x5 := mr_f st a (i := i) (by omega)
    rw [decide_eq_true hi] at x1 x2 x3 x4
    rw [decide_eq_true (show i < a.f.length by omega)] at x5
    refine ⟨?_, x5⟩
    cases hq : gD (madeR st a).r i with | mk y1 y2 y3 =>
    cases hp : gD a.r i with | mk z1 z2 z3 =>
    cases y3; cases z3
    rw [hq, hp] at x1 x2 x3 x4
    simp only [cond_true] at x1 x2 x3 x4
    rw [x1, x2, x3, x4]
  obtain ⟨y1, y2, y3, y4⟩ := mr_r st a (i := a.r.length) (by omega)
  have y5 := mr_f st a (i := a.r.length) (by omega)
  rw [decide_eq_false (Nat.lt_irrefl _)] at y1 y2 y3 y4
  rw [decide_eq_false (show ¬ a.r.length < a.f.length by omega)] at y5
  simp only [cond_false] at y1 y2 y3 y4 y5
  rw [elo] at y3
  rw [ehi] at y4
  refine ⟨by omega, by omega, fun i hi => ?_, fun j hj => ?_⟩
  · by_cases hi2 : i < a.r.length
    · obtain ⟨e1, e2⟩ := lo i hi2
      rw [e1, e2]; exact h.r i hi2
    · rw [show i = a.r.length by omega, y1, y2, y3, y4, y5]
      exact ⟨⟨hfr, hto, hne⟩, hv, by omega, by omega, by omega, by omega⟩
  · rw [n1]
    simp only [sumN]
    have e : sumN a.r.length (fun i => bS j (gD (madeR st a).r i) (gD (madeR st a).f i)) = gD a.m j := by
      rw [h.bal j hj]
      exact sumN_congr fun i hi => by rw [(lo i hi).1, (lo i hi).2]
    rw [e, y5, mr_m (by omega) (by omega) (by omega)]
    have b1 := h.bd (by omega) (j := j) hj
    have b2 := h.bd (by omega) (j := (madeT st a).toNat) (by omega)
    have b3 := h.bd (by omega) (j := (madeF st a).toNat) (by omega)
    have w1 : wr (gD a.m (madeT st a).toNat + madeV st a) = gD a.m (madeT st a).toNat + madeV st a := w64 (by omega) (by omega)
    have w2 : wr (gD a.m (madeF st a).toNat - madeV st a) = gD a.m (madeF st a).toNat - madeV st a := w64 (by omega) (by omega)
    rw [w1, w2]
    unfold bS
    rw [y1, y2]
    by_cases c1 : j = (madeT st a).toNat
    · rw [decide_eq_true c1, if_neg (by omega), if_pos (by omega), ← c1]; rfl
    · rw [decide_eq_false c1]
      by_cases c2 : j = (madeF st a).toNat
      · rw [decide_eq_true c2, if_pos (by omega), ← c2]; simp only [cond_false, cond_true]; omega
      · rw [decide_eq_false c2, if_neg (by omega), if_neg (by omega)]; simp only [cond_false]; omega
theorem MI.run {st : Int} (hst : 2 ≤ st ∧ st ≤ 8) : ∀ (k : Nat) (a : MS) (K : Int), StmB K a.s → K + 10 * k ≤ 100000000000 → a.r.length + k ≤ 14 → MI st a → MI st (madeRs k st a) ∧ StmB (K + 10 * k) (madeRs k st a).s ∧ (madeRs k st a).r.length = a.r.length + k
  | 0, a, K, hs, hK, hr, h => ⟨h, hs.mono (by omega), rfl⟩
  | k + 1, a, K, hs, hK, hr, h => by
    obtain ⟨n1, n2, n3⟩ := mr_len st a
    obtain ⟨a1, a2, a3⟩ := MI.run hst k (madeR st a) (K + 5) (madeR_ok hst hs (by omega)).s (by omega) (by omega) (h.step hst hs (by omega) (by omega))
    simp only [madeRs]
    exact ⟨a1, a2.mono (by omega), by omega⟩
structure GI (m : List Int) (k : Nat) (a : GS) : Prop where
  g : a.g.length = k
  t : a.t.length = k
  v : ∀ j, j < k → gD a.t j = -gD m j ∧ gD a.t j - 8 ≤ (gD a.g j).lo ∧ (gD a.g j).lo ≤ gD a.t j ∧ gD a.t j ≤ (gD a.g j).hi ∧ (gD a.g j).hi ≤ gD a.t j + 8
theorem GI.run {m : List Int} (hm : ∀ j, j < m.length → -1680 ≤ gD m j ∧ gD m j ≤ 1680) : ∀ (n k : Nat) (a : GS) (K : Int), n + k = m.length → StmB K a.s → K + 10 * n ≤ 100000000000 → GI m k a → GI m m.length (madeGs (m.drop k) a) ∧ StmB (K + 10 * n) (madeGs (m.drop k) a).s
  | 0, k, a, K, hn, hs, hK, h => by
    rw [List.drop_eq_nil_of_le (by omega)]
    refine ⟨?_, hs.mono (by omega)⟩
    rw [show m.length = k by omega]; exact h
  | n + 1, k, a, K, hn, hs, hK, h => by
    have hk : k < m.length := by omega
    have hb := hm k hk
    rw [drop_gD hk]
    simp only [madeGs]
    have ex : wr (-gD m k) = -gD m k := w64 (by omega) (by omega)
    rw [ex]
    have t1 := hs.next (by omega) 9
    have t2 := t1.next (by omega) 9
    have v1 := nextV_in hs (by omega) 9
    have v2 := nextV_in t1 (by omega) 9
    have v1' := v1.2 (by omega)
    have v2' := v2.2 (by omega)
    have elo : wr (-gD m k - nextV a.s 9) = -gD m k - nextV a.s 9 := w64 (by omega) (by omega)
    have ehi : wr (-gD m k + nextV (nextS a.s 9) 9) = -gD m k + nextV (nextS a.s 9) 9 := w64 (by omega) (by omega)
    obtain ⟨n1, n2⟩ := mg_len (-gD m k) a
    have hg := h.g
    have ht := h.t
    obtain ⟨a1, a2⟩ := GI.run hm n (k + 1) (madeG (-gD m k) a) (K + 2) (by omega) (by rw [mg_s]; exact t2.mono (by omega)) (by omega) ⟨by omega, by omega, fun j hj => by
      have x1 := mg_g (-gD m k) a (i := j) (by omega)
      have x2 := mg_t (-gD m k) a (i := j) (by omega)
      rw [elo, ehi] at x1
      by_cases hjk : j < k
      · rw [decide_eq_true (show j < a.g.length by omega)] at x1
        rw [decide_eq_true (show j < a.t.length by omega)] at x2
        simp only [cond_true] at x1 x2
        rw [x1.1, x1.2, x2]; exact h.v j hjk
      · rw [decide_eq_false (show ¬ j < a.g.length by omega)] at x1
        rw [decide_eq_false (show ¬ j < a.t.length by omega)] at x2
        simp only [cond_false] at x1 x2
        rw [x1.1, x1.2, x2, show j = k by omega]; omega⟩
    exact ⟨a1, a2.mono (by omega)⟩
structure Made (N : NetL) (T : TruthL) (most : Int) : Prop where
  g1 : 1 ≤ N.g.length
  gm : (N.g.length : Int) ≤ most
  r11 : N.r.length ≤ 11
  fl : T.f.length = N.r.length
  tl : T.t.length = N.g.length
  one : N.g.length = 1 → N.r.length = 0
  r : ∀ i, i < N.r.length → ((0 ≤ (gD N.r i).fr ∧ (gD N.r i).fr < N.g.length) ∧ (0 ≤ (gD N.r i).to ∧ (gD N.r i).to < N.g.length) ∧ (gD N.r i).fr ≠ (gD N.r i).to) ∧ (-20 ≤ gD T.f i ∧ gD T.f i ≤ 120) ∧ gD T.f i - 8 ≤ (gD N.r i).sp.lo ∧ (gD N.r i).sp.lo ≤ gD T.f i ∧ gD T.f i ≤ (gD N.r i).sp.hi ∧ (gD N.r i).sp.hi ≤ gD T.f i + 8
  t : ∀ j, j < N.g.length → (-1680 ≤ gD T.t j ∧ gD T.t j ≤ 1680) ∧ gD T.t j - 8 ≤ (gD N.g j).lo ∧ (gD N.g j).lo ≤ gD T.t j ∧ gD T.t j ≤ (gD N.g j).hi ∧ (gD N.g j).hi ≤ gD T.t j + 8
  bal : ∀ s, s < N.g.length → balN N T s = 0
theorem made_ok (a : SN) (h1 : StmB 1000000000 a.s) (h2 : 1 ≤ a.n ∧ a.n ≤ 8) : Made (madeN a) (madeTr a) a.n ∧ StmB 2000000000 (mdG a).s := by
  have hst := witV_in h1 (by omega) (lo := 1) (hi := a.n) (by omega) h2.1 (by omega)
  have hst : 1 ≤ mdSt a ∧ mdSt a ≤ a.n := hst
  have hs1 : StmB 1000000001 (mdS1 a) := (h1.next (by omega) (witN 1 a.n)).mono (by omega)
  have hI := nextV_in hs1 (by omega) 12
  have hI1 : 0 ≤ mdI a := hI.1
  have hI2 : mdI a < 12 := hI.2 (by omega)
  have hs2 : StmB 1000000002 (nextS (mdS1 a) 12) := (hs1.next (by omega) 12).mono (by omega)
  have z : MI (mdSt a) (mdZ a) := ⟨rfl, by simp [mdZ], fun i hi => by simp [mdZ] at hi, fun j hj => by
    show gD (List.replicate (mdSt a).toNat 0) j = 0
    rw [gD_replicate, if_pos (by omega)]⟩
  have hR : MI (mdSt a) (mdR a) ∧ StmB 1000001000 (mdR a).s ∧ (mdR a).r.length ≤ 11 ∧ (mdSt a = 1 → (mdR a).r.length = 0) := by
    unfold mdR
    by_cases c : 1 < mdSt a
    · rw [if_pos c]
      obtain ⟨x1, x2, x3⟩ := MI.run (st := mdSt a) (by omega) (mdI a).toNat (mdZ a) 1000000002 hs2 (by omega) (by simp only [mdZ, List.length_nil]; omega) z
      refine ⟨x1, x2.mono (by omega), ?_, fun h => by omega⟩
      rw [x3]; simp only [mdZ, List.length_nil]; omega
    · rw [if_neg c]
      exact ⟨z, hs2.mono (by omega), Nat.zero_le _, fun _ => rfl⟩
  obtain ⟨r1, r2, r3, r4⟩ := hR
  have hml := r1.m
  have hmb : ∀ j, j < (mdR a).m.length → -1680 ≤ gD (mdR a).m j ∧ gD (mdR a).m j ≤ 1680 := fun j hj => r1.bd (by omega) (by omega)
  obtain ⟨g1, g2⟩ := GI.run hmb (mdR a).m.length 0 ⟨(mdR a).s, [], []⟩ 1000001000 (by omega) r2 (by omega) ⟨rfl, rfl, fun j hj => by omega⟩
  rw [List.drop_zero] at g1 g2
  have hG : madeGs (mdR a).m ⟨(mdR a).s, [], []⟩ = mdG a := rfl
  rw [hG] at g1 g2
  have hgl : (madeN a).g.length = (mdSt a).toNat := by show (mdG a).g.length = _; rw [g1.g, hml]
  have htl : (madeTr a).t.length = (mdSt a).toNat := by show (mdG a).t.length = _; rw [g1.t, hml]
  have hrl : (madeN a).r.length = (mdR a).r.length := rfl
  have hfl : (madeTr a).f.length = (mdR a).f.length := rfl
  have hlen := r1.len
  refine ⟨⟨by omega, by omega, by omega, by omega, by omega, fun h => by rw [hrl]; exact r4 (by omega), fun i hi => ?_, fun j hj => ?_, fun s hs => ?_⟩, g2.mono (by omega)⟩
  · have e : ((madeN a).g.length : Int) = mdSt a := by omega
    rw [e]; exact r1.r i hi
  · have b := hmb j (by omega)
    obtain ⟨v1, v2, v3, v4, v5⟩ := g1.v j (by omega)
    have v1 : gD (madeTr a).t j = -gD (mdR a).m j := v1
    exact ⟨by omega, v2, v3, v4, v5⟩
  · have v1 : gD (madeTr a).t s = -gD (mdR a).m s := (g1.v s (by omega)).1
    have v2 := r1.bal s (by omega)
    have e : balN (madeN a) (madeTr a) s = gD (madeTr a).t s + sumN (mdR a).r.length fun i => bS s (gD (mdR a).r i) (gD (mdR a).f i) := rfl
    rw [e, v1, ← v2]; omega
variable {N : NetL} {T : TruthL} {most : Int}
theorem Made.good (h : Made N T most) (hm : most ≤ 8) : Good N := by
  have := h.gm
  have := h.r11
  refine ⟨h.g1, by omega, by omega, fun j hj => ?_, fun i hi => ?_⟩
  · have := h.t j hj; omega
  · obtain ⟨⟨a, b, c⟩, d⟩ := h.r i hi
    exact ⟨by omega, a, b, c⟩
theorem Made.check (h : Made N T most) (hm : most ≤ 8) : checkL N = 0 := check_good (h.good hm)
theorem Made.can (h : Made N T most) (hm : most ≤ 8) : Can N T := by
  rw [can_iff (h.check hm)]
  exact ⟨⟨h.fl, h.tl⟩, fun i hi => by have := h.r i hi; omega, fun j hj => by have := h.t j hj; omega, h.bal⟩
theorem Made.set (h : Made N T most) (hm : most ≤ 8) : setC N = 0 := can_zero (h.can hm)
end Go.Bal
