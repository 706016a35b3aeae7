/- Nets that are made of numbers. -/
import Derived.Test.YtonddbmhljelgaaBalTot
import Derived.Test.YtonddbmhljelgaaBalT15
import Derived.Test.YtonddbmhljelgaaBalW
set_option linter.unusedVariables false
set_option linter.unusedSimpArgs false
namespace Go.Bal
open Go Go.Sym Go.Proofs
structure MS where
  s : Stm
  r : List Reach
  f : List Int
  m : List Int
  deriving Inhabited
def madeX (st : Int) (a : MS) : Stm := witS (nextS a.s st) 1 (wr (st - 1))
def madeV (st : Int) (a : MS) : Int := witV (madeX st a) (-20) 120
def madeY (st : Int) (a : MS) : Stm := witS (madeX st a) (-20) 120
def madeF (st : Int) (a : MS) : Int := nextV a.s st
def madeT (st : Int) (a : MS) : Int := (wr (nextV a.s st + witV (nextS a.s st) 1 (wr (st - 1)))).tmod st
def madeR (st : Int) (a : MS) : MS := ⟨nextS (nextS (madeY st a) 9) 9, a.r ++ [⟨madeF st a, madeT st a, ⟨wr (madeV st a - nextV (madeY st a) 9), wr (madeV st a + nextV (nextS (madeY st a) 9) 9)⟩⟩], a.f ++ [madeV st a], (a.m.modify (madeF st a).toNat fun y => wr (y - madeV st a)).modify (madeT st a).toNat fun y => wr (y + madeV st a)⟩
def madeRs : Nat → Int → MS → MS
  | 0, _, a => a
  | k + 1, st, a => madeRs k st (madeR st a)
structure GS where
  s : Stm
  g : List Span
  t : List Int
  deriving Inhabited
def madeG (x : Int) (a : GS) : GS := ⟨nextS (nextS a.s 9) 9, a.g ++ [⟨wr (x - nextV a.s 9), wr (x + nextV (nextS a.s 9) 9)⟩], a.t ++ [x]⟩
def madeGs : List Int → GS → GS
  | [], a => a
  | x :: l, a => madeGs l (madeG (wr (-x)) a)
structure Mx (st : Int) (K : Int) (a : MS) : Prop where
  s0 : StmB (K + 1) (nextS a.s st)
  x : StmB (K + 2) (madeX st a)
  y : StmB (K + 3) (madeY st a)
  z : StmB (K + 4) (nextS (madeY st a) 9)
  s : StmB (K + 5) (madeR st a).s
  fr : 0 ≤ madeF st a ∧ madeF st a < st
  to : 0 ≤ madeT st a ∧ madeT st a < st
  ne : madeF st a ≠ madeT st a
  v : -20 ≤ madeV st a ∧ madeV st a ≤ 120
  lo : 0 ≤ nextV (madeY st a) 9 ∧ nextV (madeY st a) 9 < 9
  hi : 0 ≤ nextV (nextS (madeY st a) 9) 9 ∧ nextV (nextS (madeY st a) 9) 9 < 9
theorem madeR_ok {st K : Int} (hst : 2 ≤ st ∧ st ≤ 8) {a : MS} (h : StmB K a.s) (hK : K ≤ 100000000000000) : Mx st K a := by
  have s0 := h.next (by omega) st
  have ew : wr (st - 1) = st - 1 := w64 (by omega) (by omega)
  have x : StmB (K + 2) (madeX st a) := (s0.next (by omega) (witN 1 (wr (st - 1)))).mono (by omega)
  have y : StmB (K + 3) (madeY st a) := (x.next (by omega) (witN (-20) 120)).mono (by omega)
  have z : StmB (K + 4) (nextS (madeY st a) 9) := (y.next (by omega) 9).mono (by omega)
  have s : StmB (K + 5) (madeR st a).s := (z.next (by omega) 9).mono (by omega)
  have f := nextV_in h (by omega) st
  have fr : 0 ≤ madeF st a ∧ madeF st a < st := ⟨f.1, f.2 (by omega)⟩
  have w := witV_in s0 (by omega) (lo := 1) (hi := wr (st - 1)) (by omega) (by omega) (by omega)
  rw [ew] at w
  have e : wr (nextV a.s st + witV (nextS a.s st) 1 (st - 1)) = nextV a.s st + witV (nextS a.s st) 1 (st - 1) := w64 (by omega) (by omega)
  have et : madeT st a = (nextV a.s st + witV (nextS a.s st) 1 (st - 1)) % st := by
    unfold madeT; rw [ew, e, Int.tmod_eq_emod_of_nonneg (by omega)]
  have to : 0 ≤ madeT st a ∧ madeT st a < st := by rw [et]; exact ⟨Int.emod_nonneg _ (by omega), Int.emod_lt_of_pos _ (by omega)⟩
  refine ⟨s0, x, y, z, s, fr, to, ?_, witV_in x (by omega) (by omega) (by omega) (by omega), ?_, ?_⟩
  · rw [et]
    unfold madeF
    intro he
    by_cases hlt : nextV a.s st + witV (nextS a.s st) 1 (st - 1) < st
    · rw [Int.emod_eq_of_lt (by omega) hlt] at he; omega
    · rw [← Int.sub_emod_right, Int.emod_eq_of_lt (by omega) (by omega)] at he; omega
  · have := nextV_in y (by omega) 9; exact ⟨this.1, this.2 (by omega)⟩
  · have := nextV_in z (by omega) 9; exact ⟨this.1, this.2 (by omega)⟩
theorem mr_len (st : Int) (a : MS) : (madeR st a).r.length = a.r.length + 1 ∧ (madeR st a).f.length = a.f.length + 1 ∧ (madeR st a).m.length = a.m.length := by simp [madeR]
theorem mr_r (st : Int) (a : MS) {i : Nat} (hi : i < a.r.length + 1) : (gD (madeR st a).r i).fr = (bif decide (i < a.r.length) then (gD a.r i).fr else madeF st a) ∧ (gD (madeR st a).r i).to = (bif decide (i < a.r.length) then (gD a.r i).to else madeT st a) ∧ (gD (madeR st a).r i).sp.lo = (bif decide (i < a.r.length) then (gD a.r i).sp.lo else wr (madeV st a - nextV (madeY st a) 9)) ∧ (gD (madeR st a).r i).sp.hi = (bif decide (i < a.r.length) then (gD a.r i).sp.hi else wr (madeV st a + nextV (nextS (madeY st a) 9) 9)) := by
  have e : (madeR st a).r = a.r ++ [⟨madeF st a, madeT st a, ⟨wr (madeV st a - nextV (madeY st a) 9), wr (madeV st a + nextV (nextS (madeY st a) 9) 9)⟩⟩] := by simp only [madeR]
  rw [e, gD_append]
  by_cases h : i < a.r.length
  · simp [h]
  · have : i - a.r.length = 0 := by omega
    simp only [h, if_false, decide_false, cond_false, this]
    exact ⟨rfl, rfl, rfl, rfl⟩
theorem mr_f (st : Int) (a : MS) {i : Nat} (hi : i < a.f.length + 1) : gD (madeR st a).f i = bif decide (i < a.f.length) then gD a.f i else madeV st a := by
  have e : (madeR st a).f = a.f ++ [madeV st a] := by simp only [madeR]
  rw [e, gD_append]
  by_cases h : i < a.f.length
  · simp [h]
  · have : i - a.f.length = 0 := by omega
    simp only [h, if_false, decide_false, cond_false, this]; rfl
theorem mr_m {st : Int} {a : MS} (hf : (madeF st a).toNat < a.m.length) (ht : (madeT st a).toNat < a.m.length) (hne : (madeT st a).toNat ≠ (madeF st a).toNat) (i : Nat) : gD (madeR st a).m i = bif decide (i = (madeT st a).toNat) then wr (gD a.m (madeT st a).toNat + madeV st a) else bif decide (i = (madeF st a).toNat) then wr (gD a.m (madeF st a).toNat - madeV st a) else gD a.m i := by
  have e : (madeR st a).m = (a.m.modify (madeF st a).toNat fun y => wr (y - madeV st a)).modify (madeT st a).toNat fun y => wr (y + madeV st a) := by simp only [madeR]
  rw [e, gD_modify (by rw [List.length_modify]; exact ht), gD_modify hf, gD_modify hf, if_neg hne]
  by_cases h1 : i = (madeT st a).toNat
  · simp [h1]
  · by_cases h2 : i = (madeF st a).toNat
    · simp [h1, h2]
    · simp [h1, h2]
theorem mg_len (x : Int) (a : GS) : (madeG x a).g.length = a.g.length + 1 ∧ (madeG x a).t.length = a.t.length + 1 := by simp [madeG]
theorem mg_g (x : Int) (a : GS) {i : Nat} (hi : i < a.g.length + 1) : (gD (madeG x a).g i).lo = (bif decide (i < a.g.length) then (gD a.g i).lo else wr (x - nextV a.s 9)) ∧ (gD (madeG x a).g i).hi = (bif decide (i < a.g.length) then (gD a.g i).hi else wr (x + nextV (nextS a.s 9) 9)) := by
  have e : (madeG x a).g = a.g ++ [⟨wr (x - nextV a.s 9), wr (x + nextV (nextS a.s 9) 9)⟩] := by simp only [madeG]
  rw [e, gD_append]
  by_cases h : i < a.g.length
  · simp [h]
  · have : i - a.g.length = 0 := by omega
    simp only [h, if_false, decide_false, cond_false, this]
    exact ⟨rfl, rfl⟩
theorem mg_t (x : Int) (a : GS) {i : Nat} (hi : i < a.t.length + 1) : gD (madeG x a).t i = bif decide (i < a.t.length) then gD a.t i else x := by
  have e : (madeG x a).t = a.t ++ [x] := by simp only [madeG]
  rw [e, gD_append]
  by_cases h : i < a.t.length
  · simp [h]
  · have : i - a.t.length = 0 := by omega
    simp only [h, if_false, decide_false, cond_false, this]; rfl
theorem mg_s (x : Int) (a : GS) : (madeG x a).s = nextS (nextS a.s 9) 9 := by simp only [madeG]
end Go.Bal

namespace Go.Bal
open Go Go.Sym
theorem flowM_of {s : Span} (h1 : -1000000 ≤ s.lo) (h2 : s.lo ≤ s.hi) (h3 : s.hi ≤ 1000000) : flowM s = true := flowM_iff.2 ⟨⟨h1, h2⟩, h3⟩
theorem first0_all {e : Nat → Int} : ∀ (n k : Nat), (∀ i, k ≤ i → i < k + n → e i = 0) → first0 e n k = 0
  | 0, _, _ => rfl
  | n + 1, k, h => by
    simp only [first0]
    rw [if_pos (h k (by omega) (by omega))]
    exact first0_all n (k + 1) fun i h1 h2 => h i (by omega) (by omega)
theorem check_good {N : NetL} (h : Good N) : checkL N = 0 := by
  rw [checkL_some ⟨h.g1, h.g8, h.r14⟩, if_pos (allB_iff.2 fun i hi => by have := h.g i hi; exact flowM_of (by omega) (by omega) (by omega))]
  refine first0_all _ _ fun i _ hi => ?_
  obtain ⟨a, b, c, d⟩ := h.r i (by omega)
  have hn : ((netF N).nG : Int) = N.g.length := rfl
  unfold badR
  rw [hn, if_neg, if_pos (flowM_of (by omega) (by omega) (by omega))]
  simp only [Bool.or_eq_true, Bool.not_eq_true', decide_eq_true_eq, not_or, Bool.not_eq_false]
  exact ⟨⟨inM_iff.2 (by omega), inM_iff.2 (by omega)⟩, d⟩
structure MI (st : Int) (a : MS) : Prop where
  len : a.r.length = a.f.length
  m : a.m.length = st.toNat
  r : ∀ i, i < a.r.length → ((0 ≤ (gD a.r i).fr ∧ (gD a.r i).fr < st) ∧ (0 ≤ (gD a.r i).to ∧ (gD a.r i).to < st) ∧ (gD a.r i).fr ≠ (gD a.r i).to) ∧ (-20 ≤ gD a.f i ∧ gD a.f i ≤ 120) ∧ gD a.f i - 8 ≤ (gD a.r i).sp.lo ∧ (gD a.r i).sp.lo ≤ gD a.f i ∧ gD a.f i ≤ (gD a.r i).sp.hi ∧ (gD a.r i).sp.hi ≤ gD a.f i + 8
  bal : ∀ j : Nat, (j : Int) < st → gD a.m j = sumN a.r.length fun i => bS j (gD a.r i) (gD a.f i)
theorem bS_bd {s : Int} {r : Reach} {f : Int} (h : -20 ≤ f ∧ f ≤ 120) : -120 ≤ bS s r f ∧ bS s r f ≤ 120 := by
  unfold bS; split <;> (try split) <;> omega
theorem sumN_bd {f : Nat → Int} {K : Int} : ∀ {n : Nat}, (∀ i, i < n → -K ≤ f i ∧ f i ≤ K) → -(K * n) ≤ sumN n f ∧ sumN n f ≤ K * n
  | 0, _ => by simp [sumN]
  | n + 1, h => by
    have h1 := sumN_bd (n := n) fun i hi => h i (by omega)
    have h2 := h n (by omega)
    have h3 : (K * ((n + 1 : Nat) : Int)) = K * n + K := by rw [Int.natCast_add, Int.mul_add]; omega
    rw [h3]; simp only [sumN]; omega
theorem MI.bd {st : Int} {a : MS} (h : MI st a) (hr : a.r.length ≤ 14) {j : Nat} (hj : (j : Int) < st) : -1680 ≤ gD a.m j ∧ gD a.m j ≤ 1680 := by
  rw [h.bal j hj]
  have := sumN_bd (K := 120) (n := a.r.length) (f := fun i => bS j (gD a.r i) (gD a.f i)) fun i hi => bS_bd (h.r i hi).2.1
  omega
theorem MI.step {st K : Int} (hst : 2 ≤ st ∧ st ≤ 8) {a : MS} (hs : StmB K a.s) (hK : K ≤ 100000000000000) (hr : a.r.length ≤ 13) (h : MI st a) : MI st (madeR st a) := by
  have M := madeR_ok hst hs hK
  obtain ⟨n1, n2, n3⟩ := mr_len st a
  have hfr := M.fr
  have hto := M.to
  have hne := M.ne
  have hv := M.v
  have hlo := M.lo
  have hhi := M.hi
  have hl := h.len
  have hm := h.m
  have elo : wr (madeV st a - nextV (madeY st a) 9) = madeV st a - nextV (madeY st a) 9 := w64 (by omega) (by omega)
  have ehi : wr (madeV st a + nextV (nextS (madeY st a) 9) 9) = madeV st a + nextV (nextS (madeY st a) 9) 9 := w64 (by omega) (by omega)
  have lo : ∀ i, i < a.r.length → gD (madeR st a).r i = gD a.r i ∧ gD (madeR st a).f i = gD a.f i := fun i hi => by
    obtain ⟨x1, x2, x3, x4⟩ := mr_r st a (i := i) (by omega)
    have x5 := mr_f st a (i := i) (by omega)
    rw [decide_eq_true hi] at x1 x2 x3 x4
    rw [decide_eq_true (show i < a.f.length by omega)] at x5
    refine ⟨?_, x5⟩
    cases hq : gD (madeR st a).r i with | mk y1 y2 y3 =>
    cases hp : gD a.r i with | mk z1 z2 z3 =>
    cases y3; cases z3
    rw [hq, hp] at x1 x2 x3 x4
    simp only [cond_true] at x1 x2 x3 x4
    rw [x1, x2, x3, x4]
  obtain ⟨y1, y2, y3, y4⟩ := mr_r st a (i := a.r.length) (by omega)
  have y5 := mr_f st a (i := a.r.length) (by omega)
  rw [decide_eq_false (Nat.lt_irrefl _)] at y1 y2 y3 y4
  rw [decide_eq_false (show ¬ a.r.length < a.f.length by omega)] at y5
  simp only [cond_false] at y1 y2 y3 y4 y5
  rw [elo] at y3
  rw [ehi] at y4
  refine ⟨by omega, by omega, fun i hi => ?_, fun j hj => ?_⟩
  · by_cases hi2 : i < a.r.length
    · obtain ⟨e1, e2⟩ := lo i hi2
      rw [e1, e2]; exact h.r i hi2
    · rw [show i = a.r.length by omega, y1, y2, y3, y4, y5]
      exact ⟨⟨hfr, hto, hne⟩, hv, by omega, by omega, by omega, by omega⟩
  · rw [n1]
    simp only [sumN]
    have e : sumN a.r.length (fun i => bS j (gD (madeR st a).r i) (gD (madeR st a).f i)) = gD a.m j := by
      rw [h.bal j hj]
      exact sumN_congr fun i hi => by rw [(lo i hi).1, (lo i hi).2]
    rw [e, y5, mr_m (by omega) (by omega) (by omega)]
    have b1 := h.bd (by omega) (j := j) hj
    have b2 := h.bd (by omega) (j := (madeT st a).toNat) (by omega)
    have b3 := h.bd (by omega) (j := (madeF st a).toNat) (by omega)
    have w1 : wr (gD a.m (madeT st a).toNat + madeV st a) = gD a.m (madeT st a).toNat + madeV st a := w64 (by omega) (by omega)
    have w2 : wr (gD a.m (madeF st a).toNat - madeV st a) = gD a.m (madeF st a).toNat - madeV st a := w64 (by omega) (by omega)
    rw [w1, w2]
    unfold bS
    rw [y1, y2]
    by_cases c1 : j = (madeT st a).toNat
    · rw [decide_eq_true c1, if_neg (by omega), if_pos (by omega), ← c1]; rfl
    · rw [decide_eq_false c1]
      by_cases c2 : j = (madeF st a).toNat
      · rw [decide_eq_true c2, if_pos (by omega), ← c2]; simp only [cond_false, cond_true]; omega
      · rw [decide_eq_false c2, if_neg (by omega), if_neg (by omega)]; simp only [cond_false]; omega
theorem MI.run {st : Int} (hst : 2 ≤ st ∧ st ≤ 8) : ∀ (k : Nat) (a : MS) (K : Int), StmB K a.s → K + 10 * k ≤ 100000000000 → a.r.length + k ≤ 14 → MI st a → MI st (madeRs k st a) ∧ StmB (K + 10 * k) (madeRs k st a).s ∧ (madeRs k st a).r.length = a.r.length + k
  | 0, a, K, hs, hK, hr, h => ⟨h, hs.mono (by omega), rfl⟩
  | k + 1, a, K, hs, hK, hr, h => by
    obtain ⟨n1, n2, n3⟩ := mr_len st a
    obtain ⟨a1, a2, a3⟩ := MI.run hst k (madeR st a) (K + 5) (madeR_ok hst hs (by omega)).s (by omega) (by omega) (h.step hst hs (by omega) (by omega))
    simp only [madeRs]
    exact ⟨a1, a2.mono (by omega), by omega⟩
structure GI (m : List Int) (k : Nat) (a : GS) : Prop where
  g : a.g.length = k
  t : a.t.length = k
  v : ∀ j, j < k → gD a.t j = -gD m j ∧ gD a.t j - 8 ≤ (gD a.g j).lo ∧ (gD a.g j).lo ≤ gD a.t j ∧ gD a.t j ≤ (gD a.g j).hi ∧ (gD a.g j).hi ≤ gD a.t j + 8
theorem GI.run {m : List Int} (hm : ∀ j, j < m.length → -1680 ≤ gD m j ∧ gD m j ≤ 1680) : ∀ (n k : Nat) (a : GS) (K : Int), n + k = m.length → StmB K a.s → K + 10 * n ≤ 100000000000 → GI m k a → GI m m.length (madeGs (m.drop k) a) ∧ StmB (K + 10 * n) (madeGs (m.drop k) a).s
  | 0, k, a, K, hn, hs, hK, h => by
    rw [List.drop_eq_nil_of_le (by omega)]
    refine ⟨?_, hs.mono (by omega)⟩
    rw [show m.length = k by omega]; exact h
  | n + 1, k, a, K, hn, hs, hK, h => by
    have hk : k < m.length := by omega
    have hb := hm k hk
    rw [drop_gD hk]
    simp only [madeGs]
    have ex : wr (-gD m k) = -gD m k := w64 (by omega) (by omega)
    rw [ex]
    have t1 := hs.next (by omega) 9
    have t2 := t1.next (by omega) 9
    have v1 := nextV_in hs (by omega) 9
    have v2 := nextV_in t1 (by omega) 9
    have v1' := v1.2 (by omega)
    have v2' := v2.2 (by omega)
    have elo : wr (-gD m k - nextV a.s 9) = -gD m k - nextV a.s 9 := w64 (by omega) (by omega)
    have ehi : wr (-gD m k + nextV (nextS a.s 9) 9) = -gD m k + nextV (nextS a.s 9) 9 := w64 (by omega) (by omega)
    obtain ⟨n1, n2⟩ := mg_len (-gD m k) a
    have hg := h.g
    have ht := h.t
    obtain ⟨a1, a2⟩ := GI.run hm n (k + 1) (madeG (-gD m k) a) (K + 2) (by omega) (by rw [mg_s]; exact t2.mono (by omega)) (by omega) ⟨by omega, by omega, fun j hj => by
      have x1 := mg_g (-gD m k) a (i := j) (by omega)
      have x2 := mg_t (-gD m k) a (i := j) (by omega)
      rw [elo, ehi] at x1
      by_cases hjk : j < k
      · rw [decide_eq_true (show j < a.g.length by omega)] at x1
        rw [decide_eq_true (show j < a.t.length by omega)] at x2
        simp only [cond_true] at x1 x2
        rw [x1.1, x1.2, x2]; exact h.v j hjk
      · rw [decide_eq_false (show ¬ j < a.g.length by omega)] at x1
        rw [decide_eq_false (show ¬ j < a.t.length by omega)] at x2
        simp only [cond_false] at x1 x2
        rw [x1.1, x1.2, x2, show j = k by omega]; omega⟩
    exact ⟨a1, a2.mono (by omega)⟩
structure Made (N : NetL) (T : TruthL) (most : Int) : Prop where
  g1 : 1 ≤ N.g.length
  gm : (N.g.length : Int) ≤ most
  r11 : N.r.length ≤ 11
  fl : T.f.length = N.r.length
  tl : T.t.length = N.g.length
  one : N.g.length = 1 → N.r.length = 0
  r : ∀ i, i < N.r.length → ((0 ≤ (gD N.r i).fr ∧ (gD N.r i).fr < N.g.length) ∧ (0 ≤ (gD N.r i).to ∧ (gD N.r i).to < N.g.length) ∧ (gD N.r i).fr ≠ (gD N.r i).to) ∧ (-20 ≤ gD T.f i ∧ gD T.f i ≤ 120) ∧ gD T.f i - 8 ≤ (gD N.r i).sp.lo ∧ (gD N.r i).sp.lo ≤ gD T.f i ∧ gD T.f i ≤ (gD N.r i).sp.hi ∧ (gD N.r i).sp.hi ≤ gD T.f i + 8
  t : ∀ j, j < N.g.length → (-1680 ≤ gD T.t j ∧ gD T.t j ≤ 1680) ∧ gD T.t j - 8 ≤ (gD N.g j).lo ∧ (gD N.g j).lo ≤ gD T.t j ∧ gD T.t j ≤ (gD N.g j).hi ∧ (gD N.g j).hi ≤ gD T.t j + 8
  bal : ∀ s, s < N.g.length → balN N T s = 0
variable {N : NetL} {T : TruthL} {most : Int}
theorem Made.good (h : Made N T most) (hm : most ≤ 8) : Good N := by
  have := h.gm
  have := h.r11
  refine ⟨h.g1, by omega, by omega, fun j hj => ?_, fun i hi => ?_⟩
  · have := h.t j hj; omega
  · obtain ⟨⟨a, b, c⟩, d⟩ := h.r i hi
    exact ⟨by omega, a, b, c⟩
theorem Made.check (h : Made N T most) (hm : most ≤ 8) : checkL N = 0 := check_good (h.good hm)
theorem Made.can (h : Made N T most) (hm : most ≤ 8) : Can N T := by
  rw [can_iff (h.check hm)]
  exact ⟨⟨h.fl, h.tl⟩, fun i hi => by have := h.r i hi; omega, fun j hj => by have := h.t j hj; omega, h.bal⟩
theorem Made.set (h : Made N T most) (hm : most ≤ 8) : setC N = 0 := can_zero (h.can hm)
end Go.Bal

namespace Go.Bal
open Go Go.Sym Go.Proofs
def A14 := ann 108 [(49, C49.spec d49), (34, C34.spec d67), (20, C20.spec d67), (24, C24.spec d24), (21, C21.spec d67), (25, C25.spec d67), (35, C35.spec d35), (50, s50), (37, C37.spec d37), (27, C27.spec d27)]
def V14 (n : Nat) : Prop := fnVC Try.prog A14 Try.f14 (bodyOf Try.f14) [] (heapOf []) (.bool true) [] [] []
abbrev z14_0 : Prop := Int.ofNat (105 : Nat) = Int.ofNat (105 : Nat)
abbrev z14_1 : Prop := Int.ofNat (130 : Nat) = Int.ofNat (130 : Nat)
abbrev z14_2 : Prop := (3 : Nat) = (3 : Nat)
abbrev z14_3 : NetL := threeN (105 : Int) (130 : Int)
abbrev z14_4 : List Span := z14_3.g
abbrev z14_5 (i : Nat) : Span := gD z14_4 i
abbrev z14_6 : List Span := rng z14_4.length fun (i : Nat) => z14_5 i
abbrev z14_7 (i : Nat) : Span := gD z14_6 i
abbrev z14_8 : Prop := ∀ (i : Nat), i < (3 : Nat) → (z14_7 i).lo = (z14_5 i).lo ∧ (z14_7 i).hi = (z14_5 i).hi
abbrev z14_9 : Prop := (2 : Nat) = (2 : Nat)
abbrev z14_10 : List Reach := z14_3.r
abbrev z14_11 (i : Nat) : Reach := gD z14_10 i
abbrev z14_12 : List Reach := rng z14_10.length fun (i : Nat) => z14_11 i
abbrev z14_13 (i : Nat) : Reach := gD z14_12 i
abbrev z14_14 (i : Nat) : Span := (z14_13 i).sp
abbrev z14_15 (i : Nat) : Span := (z14_11 i).sp
abbrev z14_16 : Prop := ∀ (i : Nat), i < (2 : Nat) → (z14_13 i).fr = (z14_11 i).fr ∧ (z14_13 i).to = (z14_11 i).to ∧ (z14_14 i).lo = (z14_15 i).lo ∧ (z14_14 i).hi = (z14_15 i).hi
abbrev z14_17 : Prop := Int.ofNat (0 : Nat) = Int.ofNat (0 : Nat)
abbrev z14_18 : Prop := ¬(0 : Int) < setC (NetL.mk (rng (3 : Nat) fun (i : Nat) => z14_5 i) (rng (2 : Nat) fun (i : Nat) => z14_11 i))
abbrev z14_19 : NetL := NetL.mk z14_6 z14_12
abbrev z14_20 : Prop := Int.ofNat (140 : Nat) = Int.ofNat (140 : Nat)
abbrev z14_21 : Prop := Int.ofNat (150 : Nat) = Int.ofNat (150 : Nat)
abbrev z14_22 : NetL := threeN (140 : Int) (150 : Int)
abbrev z14_23 : List Span := z14_22.g
abbrev z14_24 (i : Nat) : Span := gD z14_23 i
abbrev z14_25 : List Span := rng z14_23.length fun (i : Nat) => z14_24 i
abbrev z14_26 (i : Nat) : Span := gD z14_25 i
abbrev z14_27 : Prop := ∀ (i : Nat), i < (3 : Nat) → (z14_26 i).lo = (z14_24 i).lo ∧ (z14_26 i).hi = (z14_24 i).hi
abbrev z14_28 : List Reach := z14_22.r
abbrev z14_29 (i : Nat) : Reach := gD z14_28 i
abbrev z14_30 : List Reach := rng z14_28.length fun (i : Nat) => z14_29 i
abbrev z14_31 (i : Nat) : Reach := gD z14_30 i
abbrev z14_32 (i : Nat) : Span := (z14_31 i).sp
abbrev z14_33 (i : Nat) : Span := (z14_29 i).sp
abbrev z14_34 : Prop := ∀ (i : Nat), i < (2 : Nat) → (z14_31 i).fr = (z14_29 i).fr ∧ (z14_31 i).to = (z14_29 i).to ∧ (z14_32 i).lo = (z14_33 i).lo ∧ (z14_32 i).hi = (z14_33 i).hi
abbrev z14_35 (i : Nat) : Bool := decide (i = (0 : Nat))
abbrev z14_36 (i : Nat) : Bool := decide (i - (1 : Nat) = (0 : Nat))
abbrev z14_37 : List Int := rng (3 : Nat) fun (i : Nat) => bif z14_35 i then (0 : Int) else bif z14_36 i then (-1 : Int) else (0 : Int)
abbrev z14_38 (j : Nat) : Nat := (0 : Nat) + j
abbrev z14_39 (j : Nat) : Bool := decide (z14_38 j = (0 : Nat))
abbrev z14_40 : NetL := NetL.mk z14_25 z14_30
abbrev z14_41 : List Span := spF z14_19
abbrev z14_42 (i : Nat) : Span := gD z14_41 i
abbrev z14_43 (i : Nat) : Span := gD (rng z14_41.length fun (i : Nat) => z14_42 i) i
abbrev z14_44 (i : Nat) : Int := bif z14_35 i then (100 : Int) else (105 : Int)
abbrev z14_45 (i : Nat) : Int := bif z14_35 i then (115 : Int) else (125 : Int)
abbrev z14_46 : List Span := rng (2 : Nat) fun (i : Nat) => Span.mk (z14_44 i) (z14_45 i)
abbrev z14_47 (i : Nat) : Span := gD z14_46 i
abbrev z14_48 : List Span := spG z14_19
abbrev z14_49 (i : Nat) : Span := gD z14_48 i
abbrev z14_50 (i : Nat) : Span := gD (rng z14_48.length fun (i : Nat) => z14_49 i) i
abbrev z14_51 (i : Nat) : Int := bif z14_35 i then (100 : Int) else bif z14_36 i then (0 : Int) else (-125 : Int)
abbrev z14_52 (i : Nat) : Int := bif z14_35 i then (115 : Int) else bif z14_36 i then (10 : Int) else (-105 : Int)
abbrev z14_53 : List Span := rng (3 : Nat) fun (i : Nat) => Span.mk (z14_51 i) (z14_52 i)
abbrev z14_54 (i : Nat) : Span := gD z14_53 i
abbrev z14_55 : Prop := (1 : Nat) = (1 : Nat)
abbrev z14_56 : List Int := suspK z14_40 z14_30.length
abbrev z14_57 (i : Nat) : Int := gD z14_56 i
abbrev z14_58 : List Int := rng (1 : Nat) fun (i : Nat) => (1 : Int)
theorem vc14 (n : Nat) : (V14 n) = ((z14_0 ∧ z14_1 ∧ z14_2 ∧ z14_8 ∧ z14_9 ∧ z14_16 ∧ z14_17 ∧ true = true ∧ z14_18 ∧ ∀ (i : Nat), i < (5 : Nat) → (spanV (setD z14_19) (↑i : Int)).isSome = true) ∧ (z14_20 ∧ z14_21 ∧
 z14_2 ∧ z14_27 ∧ z14_9 ∧ z14_34 ∧ z14_17 ∧ true = true) ∧ (z14_20 ∧ z14_21 ∧ z14_2 ∧ z14_27 ∧ z14_9 ∧ z14_34 ∧ Int.ofNat (15 : Nat) = Int.ofNat (15 : Nat) ∧ z14_2 ∧ (3 : Nat) ≤ (3 : Nat) ∧ (∀ (j : Nat), j < (3 : Nat) →
 gD z14_37 j = bif z14_39 j then (0 : Int) else bif decide (z14_38 j - (1 : Nat) = (0 : Nat)) then (-1 : Int) else (0 : Int)) ∧ z14_37.length.succ.le (4611686018427387904 : Nat)) ∧ (z14_20 ∧ z14_21 ∧ z14_2 ∧ z14_27 ∧
 z14_9 ∧ z14_34 ∧ z14_17 ∧ true = true ∧ true = true) ∧ (z14_20 ∧ z14_21 ∧ z14_2 ∧ z14_27 ∧ z14_9 ∧ z14_34 ∧ z14_17 ∧ true = true ∧ setC (NetL.mk (rng (3 : Nat) fun (i : Nat) => z14_24 i) (rng (2 : Nat) fun (i : Nat) =>
 z14_29 i)) ≠ (0 : Int) ∧ ∀ (i : Nat), i < (2 : Nat) → (settleV (suspD z14_40 i)).isSome = true) ∧ (z14_0 ∧ z14_1 ∧ z14_2 ∧ z14_8 ∧ z14_9 ∧ z14_16 ∧ z14_9 ∧ (2 : Nat) ≤ (2 : Nat) ∧ (∀ (j : Nat), j < (2 : Nat) → gD (rng (2
 : Nat) fun (i : Nat) => bif z14_35 i then (0 : Int) else (1 : Int)) j = bif z14_39 j then (0 : Int) else (1 : Int)) ∧ z14_17 ∧ true = true ∧ z14_18 ∧ false = false ∧ ((0 : Nat) < (2 : Nat) ∧ (2 : Nat) ≤ (1000000 : Nat))
 ∧ true = true) ∧ ((true = true → z14_9 ∧ (∀ (i : Nat), i < (2 : Nat) → (z14_43 i).lo = (z14_42 i).lo ∧ (z14_43 i).hi = (z14_42 i).hi) ∧ z14_9 ∧ (∀ (i : Nat), i < (2 : Nat) → (z14_47 i).lo = z14_44 i ∧ (z14_47 i).hi =
 z14_45 i) ∧ (2 : Nat) < (4611686018427387904 : Nat) ∧ z14_46.length.succ.le (4611686018427387904 : Nat)) ∧ (true = true → z14_2 ∧ (∀ (i : Nat), i < (3 : Nat) → (z14_50 i).lo = (z14_49 i).lo ∧ (z14_50 i).hi = (z14_49
 i).hi) ∧ z14_2 ∧ (∀ (i : Nat), i < (3 : Nat) → (z14_54 i).lo = z14_51 i ∧ (z14_54 i).hi = z14_52 i) ∧ (3 : Nat) < (4611686018427387904 : Nat) ∧ z14_53.length.succ.le (4611686018427387904 : Nat)) ∧ (true = true → z14_55 ∧
 (∀ (i : Nat), i < (1 : Nat) → gD (rng z14_56.length fun (i : Nat) => z14_57 i) i = z14_57 i) ∧ z14_55 ∧ (∀ (i : Nat), i < (1 : Nat) → gD z14_58 i = (1 : Int)) ∧ (1 : Nat) < (4611686018427387904 : Nat) ∧
 z14_58.length.succ.le (4611686018427387904 : Nat))) ∧ true = true) := by kernel_rfl
def f14 : List AVal → Option (AVal × List Prop)
  | [] => some (.bool true, [])
  | _ => none
def s14 : Sym.Spec := pureSpec f14
theorem p14 : V14 0 := by
  rw [vc14]; delta z14_0 z14_1 z14_2 z14_3 z14_4 z14_5 z14_6 z14_7 z14_8 z14_9 z14_10 z14_11 z14_12 z14_13 z14_14 z14_15 z14_16 z14_17 z14_18 z14_19 z14_20 z14_21 z14_22 z14_23 z14_24 z14_25 z14_26 z14_27 z14_28 z14_29 z14_30 z14_31 z14_32 z14_33 z14_34 z14_35 z14_36 z14_37 z14_38 z14_39 z14_40 z14_41 z14_42 z14_43 z14_44 z14_45 z14_46 z14_47 z14_48 z14_49 z14_50 z14_51 z14_52 z14_53 z14_54 z14_55 z14_56 z14_57 z14_58; simp only [condP, eq_self, implies_true, and_self, true_and, and_true, true_implies, forall_const, decide_eq_true_eq, decide_eq_false_iff_not, Int.toNat_natCast, dSpan_eSpan, dReach_eReach, dWay_eWay, dStep_eStep, dFar_eFar, dInt_eInt, Nat.zero_add, Int.zero_sub, Nat.le_eq, Nat.succ_eq_add_one, Nat.add_one_le_iff, Bool.not_eq_true', Bool.not_eq_false', rng_length, dSpan_mk, dReach_mk, dWay_mk, dStep_mk, dFar_mk, rng_getD]
  decide +kernel
theorem ok14 : SpecOk Try.prog 14 s14 := pureSpec_ok fun xs v p h _ => by
  unfold f14 at h; split at h
  · cases h; exact fnt (A := A14) (ren := []) (fz := []) Try.func14 (by kernel_rfl) (gok_cons ok49 (gok_cons ok34 (gok_cons ok20 (gok_cons ok24 (gok_cons ok21 (gok_cons ok25 (gok_cons ok35 (gok_cons ok50 (gok_cons ok37 (gok_cons ok27 gok_nil)))))))))) p14
  · cases h
end Go.Bal
