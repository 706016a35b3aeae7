/- Nets that are made of numbers: they are right, and what they were made of can be. -/
import Derived.Test.YtonddbmhljelgaaBalT15
import Derived.Test.YtonddbmhljelgaaBalMk2
set_option linter.unusedVariables false
set_option linter.unusedSimpArgs false
namespace Go.Bal
open Go Go.Sym
theorem Gc {s : Span} (h1 : -1000000 <= s.lo) (h2 : s.lo <= s.hi) (h3 : s.hi <= 1000000) : CX s = true := VS.2 ⟨⟨h1, h2⟩, h3⟩
theorem YX {e : Nat -> Int} : ∀ (n k : Nat), (∀ i, k <= i -> i < k + n -> e i = 0) -> GE e n k = 0
 | 0, _, _ => rfl
 | n + 1, k, h => by
  simp only [GE]
  rw [if_pos (h k (by omega) (by omega))]
  exact YX n (k + 1) λ i h1 h2 => h i (by omega) (by omega)
theorem GO {N : NetL} (h : Good N) : AD N = 0 := by
 rw [Gq ⟨h.g1, h.g8, h.r14⟩, if_pos (JQ.2 λ i hi => by have := h.g i hi; exact Gc (by omega) (by omega) (by omega))]
 refine YX _ _ λ i _ hi => ?_
 obtain ⟨a, b, c, d⟩ := h.r i (by omega)
 have hn : ((YP N).nG : Int) = N.g.length := rfl
 unfold TV
 rw [hn, if_neg, if_pos (Gc (by omega) (by omega) (by omega))]
 simp only [Bool.or_eq_true, Bool.not_eq_true', decide_eq_true_eq, not_or, Bool.not_eq_false]
 exact ⟨⟨IH.2 (by omega), IH.2 (by omega)⟩, d⟩
structure MI (st : Int) (a : MS) : Prop where
 len : a.r.length = a.f.length
 m : a.m.length = st.toNat
 r : ∀ i, i < a.r.length -> ((0 <= (gD a.r i).fr /\ (gD a.r i).fr < st) /\ (0 <= (gD a.r i).to /\ (gD a.r i).to < st) /\ (gD a.r i).fr ≠ (gD a.r i).to) /\ (-20 <= gD a.f i /\ gD a.f i <= 120) /\ gD a.f i - 8 <= (gD a.r i).sp.lo /\ (gD a.r i).sp.lo <= gD a.f i /\ gD a.f i <= (gD a.r i).sp.hi /\ (gD a.r i).sp.hi <= gD a.f i + 8
 bal : ∀ j : Nat, (j : Int) < st -> gD a.m j = BQ a.r.length λ i => bS j (gD a.r i) (gD a.f i)
theorem Yr {s : Int} {r : Reach} {f : Int} (h : -20 <= f /\ f <= 120) : -120 <= bS s r f /\ bS s r f <= 120 := by
 unfold bS; split <;> (try split) <;> omega
theorem Ke {f : Nat -> Int} {K : Int} : ∀ {n : Nat}, (∀ i, i < n -> -K <= f i /\ f i <= K) -> -(K * n) <= BQ n f /\ BQ n f <= K * n
 | 0, _ => by simp [BQ]
 | n + 1, h => by
  have h1 := Ke (n := n) λ i hi => h i (by omega)
  have h2 := h n (by omega)
  have h3 : (K * ((n + 1 : Nat) : Int)) = K * n + K := by rw [Int.natCast_add, Int.mul_add]; omega
  rw [h3]; simp only [BQ]; omega
theorem MI.bd {st : Int} {a : MS} (h : MI st a) (hr : a.r.length <= 14) {j : Nat} (hj : (j : Int) < st) : -1680 <= gD a.m j /\ gD a.m j <= 1680 := by
 rw [h.bal j hj]
 have := Ke (K := 120) (n := a.r.length) (f := λ i => bS j (gD a.r i) (gD a.f i)) λ i hi => Yr (h.r i hi).2.1
 omega
theorem MI.step {st K : Int} (hst : 2 <= st /\ st <= 8) {a : MS} (hs : StmB K a.s) (hK : K <= 100000000000000) (hr : a.r.length <= 13) (h : MI st a) : MI st (EF st a) := by
 have M := UV hst hs hK
 obtain ⟨n1, n2, n3⟩ := Ed st a
 have hfr := M.fr
 have hto := M.to
 have hne := M.ne
 have hv := M.v
 have hlo := M.lo
 have hhi := M.hi
 have hl := h.len
 have hm := h.m
 have elo : wr (FI st a - AS (HE st a) 9) = FI st a - AS (HE st a) 9 := OT (by omega) (by omega)
 have ehi : wr (FI st a + AS (AM (HE st a) 9) 9) = FI st a + AS (AM (HE st a) 9) 9 := OT (by omega) (by omega)
 have lo : ∀ i, i < a.r.length -> gD (EF st a).r i = gD a.r i /\ gD (EF st a).f i = gD a.f i := λ i hi => by
  obtain ⟨x1, x2, x3, x4⟩ := Qp st a (i := i) (by omega)
  have x5 := Qt st a (i := i) (by omega)
  rw [decide_eq_true hi] at x1 x2 x3 x4
  rw [decide_eq_true (show i < a.f.length by omega)] at x5
  refine ⟨?_, x5⟩
  cases hq : gD (EF st a).r i with | mk y1 y2 y3 =>
  cases hp : gD a.r i with | mk z1 z2 z3 =>
  cases y3; cases z3
  rw [hq, hp] at x1 x2 x3 x4
  simp only [cond_true] at x1 x2 x3 x4
  rw [x1, x2, x3, x4]
 obtain ⟨y1, y2, y3, y4⟩ := Qp st a (i := a.r.length) (by omega)
 have y5 := Qt st a (i := a.r.length) (by omega)
 rw [decide_eq_false (Nat.lt_irrefl _)] at y1 y2 y3 y4
 rw [decide_eq_false (show ¬ a.r.length < a.f.length by omega)] at y5
 simp only [cond_false] at y1 y2 y3 y4 y5
 rw [elo] at y3
 rw [ehi] at y4
 refine ⟨by omega, by omega, λ i hi => ?_, λ j hj => ?_⟩
 ·by_cases hi2 : i < a.r.length
  ·obtain ⟨e1, e2⟩ := lo i hi2
   rw [e1, e2]; exact h.r i hi2
  ·rw [show i = a.r.length by omega, y1, y2, y3, y4, y5]
   exact ⟨⟨hfr, hto, hne⟩, hv, by omega, by omega, by omega, by omega⟩
 ·rw [n1]
  simp only [BQ]
  have e : BQ a.r.length (λ i => bS j (gD (EF st a).r i) (gD (EF st a).f i)) = gD a.m j := by
   rw [h.bal j hj]
   exact BL λ i hi => by rw [(lo i hi).1, (lo i hi).2]
  rw [e, y5, Ug (by omega) (by omega) (by omega)]
  have b1 := h.bd (by omega) (j := j) hj
  have b2 := h.bd (by omega) (j := (GX st a).toNat) (by omega)
  have b3 := h.bd (by omega) (j := (GY st a).toNat) (by omega)
  have w1 : wr (gD a.m (GX st a).toNat + FI st a) = gD a.m (GX st a).toNat + FI st a := OT (by omega) (by omega)
  have w2 : wr (gD a.m (GY st a).toNat - FI st a) = gD a.m (GY st a).toNat - FI st a := OT (by omega) (by omega)
  rw [w1, w2]
  unfold bS
  rw [y1, y2]
  by_cases c1 : j = (GX st a).toNat
  ·rw [decide_eq_true c1, if_neg (by omega), if_pos (by omega), <- c1]; rfl
  ·rw [decide_eq_false c1]
   by_cases c2 : j = (GY st a).toNat
   ·rw [decide_eq_true c2, if_pos (by omega), <- c2]; simp only [cond_false, cond_true]; omega
   ·rw [decide_eq_false c2, if_neg (by omega), if_neg (by omega)]; simp only [cond_false]; omega
theorem MI.run {st : Int} (hst : 2 <= st /\ st <= 8) : ∀ (k : Nat) (a : MS) (K : Int), StmB K a.s -> K + 10 * k <= 100000000000 -> a.r.length + k <= 14 -> MI st a -> MI st (PZ k st a) /\ StmB (K + 10 * k) (PZ k st a).s /\ (PZ k st a).r.length = a.r.length + k
 | 0, a, K, hs, hK, hr, h => ⟨h, hs.mono (by omega), rfl⟩
 | k + 1, a, K, hs, hK, hr, h => by
  obtain ⟨n1, n2, n3⟩ := Ed st a
  obtain ⟨a1, a2, a3⟩ := MI.run hst k (EF st a) (K + 5) (UV hst hs (by omega)).s (by omega) (by omega) (h.step hst hs (by omega) (by omega))
  simp only [PZ]
  exact ⟨a1, a2.mono (by omega), by omega⟩
structure GI (m : List Int) (k : Nat) (a : GS) : Prop where
 g : a.g.length = k
 t : a.t.length = k
 v : ∀ j, j < k -> gD a.t j = -gD m j /\ gD a.t j - 8 <= (gD a.g j).lo /\ (gD a.g j).lo <= gD a.t j /\ gD a.t j <= (gD a.g j).hi /\ (gD a.g j).hi <= gD a.t j + 8
theorem GI.run {m : List Int} (hm : ∀ j, j < m.length -> -1680 <= gD m j /\ gD m j <= 1680) : ∀ (n k : Nat) (a : GS) (K : Int), n + k = m.length -> StmB K a.s -> K + 10 * n <= 100000000000 -> GI m k a -> GI m m.length (NL (m.drop k) a) /\ StmB (K + 10 * n) (NL (m.drop k) a).s
 | 0, k, a, K, hn, hs, hK, h => by
  rw [List.drop_eq_nil_of_le (by omega)]
  refine ⟨?_, hs.mono (by omega)⟩
  rw [show m.length = k by omega]; exact h
 | n + 1, k, a, K, hn, hs, hK, h => by
  have hk : k < m.length := by omega
  have hb := hm k hk
  rw [DX hk]
  simp only [NL]
  have ex : wr (-gD m k) = -gD m k := OT (by omega) (by omega)
  rw [ex]
  have t1 := hs.next (by omega) 9
  have t2 := t1.next (by omega) 9
  have v1 := EQ hs (by omega) 9
  have v2 := EQ t1 (by omega) 9
  have v1' := v1.2 (by omega)
  have v2' := v2.2 (by omega)
  have elo : wr (-gD m k - AS a.s 9) = -gD m k - AS a.s 9 := OT (by omega) (by omega)
  have ehi : wr (-gD m k + AS (AM a.s 9) 9) = -gD m k + AS (AM a.s 9) 9 := OT (by omega) (by omega)
  obtain ⟨n1, n2⟩ := Hy (-gD m k) a
  have hg := h.g
  have ht := h.t
  obtain ⟨a1, a2⟩ := GI.run hm n (k + 1) (JV (-gD m k) a) (K + 2) (by omega) (by rw [YM]; exact t2.mono (by omega)) (by omega) ⟨by omega, by omega, λ j hj => by
   have x1 := Uf (-gD m k) a (i := j) (by omega)
   have x2 := Ti (-gD m k) a (i := j) (by omega)
   rw [elo, ehi] at x1
   by_cases hjk : j < k
   ·rw [decide_eq_true (show j < a.g.length by omega)] at x1
    rw [decide_eq_true (show j < a.t.length by omega)] at x2
    simp only [cond_true] at x1 x2
    rw [x1.1, x1.2, x2]; exact h.v j hjk
   ·rw [decide_eq_false (show ¬ j < a.g.length by omega)] at x1
    rw [decide_eq_false (show ¬ j < a.t.length by omega)] at x2
    simp only [cond_false] at x1 x2
    rw [x1.1, x1.2, x2, show j = k by omega]; omega⟩
  exact ⟨a1, a2.mono (by omega)⟩
structure Made (N : NetL) (T : TruthL) (most : Int) : Prop where
 g1 : 1 <= N.g.length
 gm : (N.g.length : Int) <= most
 r11 : N.r.length <= 11
 fl : T.f.length = N.r.length
 tl : T.t.length = N.g.length
 one : N.g.length = 1 -> N.r.length = 0
 r : ∀ i, i < N.r.length -> ((0 <= (gD N.r i).fr /\ (gD N.r i).fr < N.g.length) /\ (0 <= (gD N.r i).to /\ (gD N.r i).to < N.g.length) /\ (gD N.r i).fr ≠ (gD N.r i).to) /\ (-20 <= gD T.f i /\ gD T.f i <= 120) /\ gD T.f i - 8 <= (gD N.r i).sp.lo /\ (gD N.r i).sp.lo <= gD T.f i /\ gD T.f i <= (gD N.r i).sp.hi /\ (gD N.r i).sp.hi <= gD T.f i + 8
 t : ∀ j, j < N.g.length -> (-1680 <= gD T.t j /\ gD T.t j <= 1680) /\ gD T.t j - 8 <= (gD N.g j).lo /\ (gD N.g j).lo <= gD T.t j /\ gD T.t j <= (gD N.g j).hi /\ (gD N.g j).hi <= gD T.t j + 8
 bal : ∀ s, s < N.g.length -> TR N T s = 0
theorem Qk (a : SN) (h1 : StmB 1000000000 a.s) (h2 : 1 <= a.n /\ a.n <= 8) : Made (EH a) (FH a) a.n /\ StmB 2000000000 (Hp a).s := by
 have hst := TW h1 (by omega) (lo := 1) (hi := a.n) (by omega) h2.1 (by omega)
 have hst : 1 <= AR a /\ AR a <= a.n := hst
 have hs1 : StmB 1000000001 (Gr a) := (h1.next (by omega) (Br 1 a.n)).mono (by omega)
 have hI := EQ hs1 (by omega) 12
 have hI1 : 0 <= Sa a := hI.1
 have hI2 : Sa a < 12 := hI.2 (by omega)
 have hs2 : StmB 1000000002 (AM (Gr a) 12) := (hs1.next (by omega) 12).mono (by omega)
 have z : MI (AR a) (Mq a) := ⟨rfl, by simp [Mq], λ i hi => by simp [Mq] at hi, λ j hj => by
  show gD (List.replicate (AR a).toNat 0) j = 0
  rw [FK, if_pos (by omega)]⟩
 have hR : MI (AR a) (DZ a) /\ StmB 1000001000 (DZ a).s /\ (DZ a).r.length <= 11 /\ (AR a = 1 -> (DZ a).r.length = 0) := by
  unfold DZ
  by_cases c : 1 < AR a
  ·rw [if_pos c]
   obtain ⟨x1, x2, x3⟩ := MI.run (st := AR a) (by omega) (Sa a).toNat (Mq a) 1000000002 hs2 (by omega) (by simp only [Mq, List.length_nil]; omega) z
   refine ⟨x1, x2.mono (by omega), ?_, λ h => by omega⟩
   rw [x3]; simp only [Mq, List.length_nil]; omega
  ·rw [if_neg c]
   exact ⟨z, hs2.mono (by omega), Nat.zero_le _, λ _ => rfl⟩
 obtain ⟨r1, r2, r3, r4⟩ := hR
 have hml := r1.m
 have hmb : ∀ j, j < (DZ a).m.length -> -1680 <= gD (DZ a).m j /\ gD (DZ a).m j <= 1680 := λ j hj => r1.bd (by omega) (by omega)
 obtain ⟨g1, g2⟩ := GI.run hmb (DZ a).m.length 0 ⟨(DZ a).s, [], []⟩ 1000001000 (by omega) r2 (by omega) ⟨rfl, rfl, λ j hj => by omega⟩
 rw [List.drop_zero] at g1 g2
 have hG : NL (DZ a).m ⟨(DZ a).s, [], []⟩ = Hp a := rfl
 rw [hG] at g1 g2
 have hgl : (EH a).g.length = (AR a).toNat := by show (Hp a).g.length = _; rw [g1.g, hml]
 have htl : (FH a).t.length = (AR a).toNat := by show (Hp a).t.length = _; rw [g1.t, hml]
 have hrl : (EH a).r.length = (DZ a).r.length := rfl
 have hfl : (FH a).f.length = (DZ a).f.length := rfl
 have hlen := r1.len
 refine ⟨⟨by omega, by omega, by omega, by omega, by omega, λ h => by rw [hrl]; exact r4 (by omega), λ i hi => ?_, λ j hj => ?_, λ s hs => ?_⟩, g2.mono (by omega)⟩
 ·have e : ((EH a).g.length : Int) = AR a := by omega
  rw [e]; exact r1.r i hi
 ·have b := hmb j (by omega)
  obtain ⟨v1, v2, v3, v4, v5⟩ := g1.v j (by omega)
  have v1 : gD (FH a).t j = -gD (DZ a).m j := v1
  exact ⟨by omega, v2, v3, v4, v5⟩
 ·have v1 : gD (FH a).t s = -gD (DZ a).m s := (g1.v s (by omega)).1
  have v2 := r1.bal s (by omega)
  have e : TR (EH a) (FH a) s = gD (FH a).t s + BQ (DZ a).r.length λ i => bS s (gD (DZ a).r i) (gD (DZ a).f i) := rfl
  rw [e, v1, <- v2]; omega
variable {N : NetL} {T : TruthL} {most : Int}
theorem Made.good (h : Made N T most) (hm : most <= 8) : Good N := by
 have := h.gm
 have := h.r11
 refine ⟨h.g1, by omega, by omega, λ j hj => ?_, λ i hi => ?_⟩
 ·have := h.t j hj; omega
 ·obtain ⟨⟨a, b, c⟩, d⟩ := h.r i hi
  exact ⟨by omega, a, b, c⟩
theorem Made.check (h : Made N T most) (hm : most <= 8) : AD N = 0 := GO (h.good hm)
theorem Made.can (h : Made N T most) (hm : most <= 8) : Can N T := by
 rw [OA (h.check hm)]
 exact ⟨⟨h.fl, h.tl⟩, λ i hi => by have := h.r i hi; omega, λ j hj => by have := h.t j hj; omega, h.bal⟩
theorem Made.set (h : Made N T most) (hm : most <= 8) : CJ N = 0 := Al (h.can hm)
end Go.Bal
