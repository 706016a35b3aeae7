/- Nets that are made of numbers: they are right, and what they were made of can be. -/
import Derived.Test.YtonddbmhljelgaaBalT15
import Derived.Test.YtonddbmhljelgaaBalTot
import Derived.Test.YtonddbmhljelgaaBalU
import Derived.Test.YtonddbmhljelgaaBalH
import Derived.Test.YtonddbmhljelgaaRows
import Derived.WalkKit
import Derived.ProofKit
import Derived.OpenShut
import Derived.ShutString
import Derived.ChangeOld
import Derived.Below
import Derived.ChangeArms
import Derived.Test.YtonddbmhljelgaaBalZ
set_option linter.unusedVariables false
set_option linter.unusedSimpArgs false
namespace Go.Bal
open Go Go.Sym
theorem Kp {s : Span} (h1 : -1000000 <= s.lo) (h2 : s.lo <= s.hi) (h3 : s.hi <= 1000000) : CJ s = true := YB.2 ⟨⟨h1, h2⟩, h3⟩
theorem Ck {e : Nat -> Int} : ∀ (n k : Nat), (∀ i, k <= i -> i < k + n -> e i = 0) -> GE e n k = 0
 | 0, _, _ => rfl
 | n + 1, k, h => by
  simp only [GE]
  rw [if_pos (h k (by omega) (by omega))]
  exact Ck n (k + 1) λ i h1 h2 => h i (by omega) (by omega)
theorem Od {N : NetL} (h : Good N) : AC N = 0 := by
 rw [QQ ⟨h.g1, h.g8, h.r14⟩, if_pos (ET.2 λ i hi => by have := h.g i hi; exact Kp (by omega) (by omega) (by omega))]
 refine Ck _ _ λ i _ hi => ?_
 obtain ⟨a, b, c, d⟩ := h.r i (by omega)
 have hn : ((PS N).nG : Int) = N.g.length := rfl
 unfold NF
 rw [hn, if_neg, if_pos (Kp (by omega) (by omega) (by omega))]
 simp only [Bool.or_eq_true, Bool.not_eq_true', decide_eq_true_eq, not_or, Bool.not_eq_false]
 exact ⟨⟨BI.2 (by omega), BI.2 (by omega)⟩, d⟩
structure MI (st : Int) (a : MS) : Prop where
 len : a.r.length = a.f.length
 m : a.m.length = st.toNat
 r : ∀ i, i < a.r.length -> ((0 <= (gD a.r i).fr /\ (gD a.r i).fr < st) /\ (0 <= (gD a.r i).to /\ (gD a.r i).to < st) /\ (gD a.r i).fr ≠ (gD a.r i).to) /\ (-20 <= gD a.f i /\ gD a.f i <= 120) /\ gD a.f i - 8 <= (gD a.r i).sp.lo /\ (gD a.r i).sp.lo <= gD a.f i /\ gD a.f i <= (gD a.r i).sp.hi /\ (gD a.r i).sp.hi <= gD a.f i + 8
 bal : ∀ j : Nat, (j : Int) < st -> gD a.m j = BM a.r.length λ i => bS j (gD a.r i) (gD a.f i)
theorem ABP {s : Int} {r : Reach} {f : Int} (h : -20 <= f /\ f <= 120) : -120 <= bS s r f /\ bS s r f <= 120 := by
 unfold bS; split <;> (try split) <;> omega
theorem Ax {f : Nat -> Int} {K : Int} : ∀ {n : Nat}, (∀ i, i < n -> -K <= f i /\ f i <= K) -> -(K * n) <= BM n f /\ BM n f <= K * n
 | 0, _ => by simp [BM]
 | n + 1, h => by
  have h1 := Ax (n := n) λ i hi => h i (by omega)
  have h2 := h n (by omega)
  have h3 : (K * ((n + 1 : Nat) : Int)) = K * n + K := by rw [Int.natCast_add, Int.mul_add]; omega
  rw [h3]; simp only [BM]; omega
theorem MI.bd {st : Int} {a : MS} (h : MI st a) (hr : a.r.length <= 14) {j : Nat} (hj : (j : Int) < st) : -1680 <= gD a.m j /\ gD a.m j <= 1680 := by
 rw [h.bal j hj]
 have := Ax (K := 120) (n := a.r.length) (f := λ i => bS j (gD a.r i) (gD a.f i)) λ i hi => ABP (h.r i hi).2.1
 omega
theorem MI.step {st K : Int} (hst : 2 <= st /\ st <= 8) {a : MS} (hs : StmB K a.s) (hK : K <= 100000000000000) (hr : a.r.length <= 13) (h : MI st a) : MI st (FZ st a) := by
 have M := Kf hst hs hK
 obtain ⟨n1, n2, n3⟩ := Us st a
 have hfr := M.fr
 have hto := M.to
 have hne := M.ne
 have hv := M.v
 have hlo := M.lo
 have hhi := M.hi
 have hl := h.len
 have hm := h.m
 have elo : wr (GJ st a - EB (JE st a) 9) = GJ st a - EB (JE st a) 9 := LO (by omega) (by omega)
 have ehi : wr (GJ st a + EB (FA (JE st a) 9) 9) = GJ st a + EB (FA (JE st a) 9) 9 := LO (by omega) (by omega)
 have lo : ∀ i, i < a.r.length -> gD (FZ st a).r i = gD a.r i /\ gD (FZ st a).f i = gD a.f i := λ i hi => by
  obtain ⟨x1, x2, x3, x4⟩ := mr_r st a (i := i) (by omega)
  have x5 := mr_f st a (i := i) (by omega)
  rw [decide_eq_true hi] at x1 x2 x3 x4
  rw [decide_eq_true (show i < a.f.length by omega)] at x5
  refine ⟨?_, x5⟩
  cases hq : gD (FZ st a).r i with | mk y1 y2 y3 =>
  cases hp : gD a.r i with | mk z1 z2 z3 =>
  cases y3; cases z3
  rw [hq, hp] at x1 x2 x3 x4
  simp only [cond_true] at x1 x2 x3 x4
  rw [x1, x2, x3, x4]
 obtain ⟨y1, y2, y3, y4⟩ := mr_r st a (i := a.r.length) (by omega)
 have y5 := mr_f st a (i := a.r.length) (by omega)
 rw [decide_eq_false (Nat.lt_irrefl _)] at y1 y2 y3 y4
 rw [decide_eq_false (show ¬ a.r.length < a.f.length by omega)] at y5
 simp only [cond_false] at y1 y2 y3 y4 y5
 rw [elo] at y3
 rw [ehi] at y4
 refine ⟨by omega, by omega, λ i hi => ?_, λ j hj => ?_⟩
 ·by_cases hi2 : i < a.r.length
  ·obtain ⟨e1, e2⟩ := lo i hi2
   rw [e1, e2]; exact h.r i hi2
  ·rw [show i = a.r.length by omega, y1, y2, y3, y4, y5]
   exact ⟨⟨hfr, hto, hne⟩, hv, by omega, by omega, by omega, by omega⟩
 ·rw [n1]
  simp only [BM]
  have e : BM a.r.length (λ i => bS j (gD (FZ st a).r i) (gD (FZ st a).f i)) = gD a.m j := by
   rw [h.bal j hj]
   exact AX λ i hi => by rw [(lo i hi).1, (lo i hi).2]
  rw [e, y5, mr_m (by omega) (by omega) (by omega)]
  have b1 := h.bd (by omega) (j := j) hj
  have b2 := h.bd (by omega) (j := (HX st a).toNat) (by omega)
  have b3 := h.bd (by omega) (j := (IP st a).toNat) (by omega)
  have w1 : wr (gD a.m (HX st a).toNat + GJ st a) = gD a.m (HX st a).toNat + GJ st a := LO (by omega) (by omega)
  have w2 : wr (gD a.m (IP st a).toNat - GJ st a) = gD a.m (IP st a).toNat - GJ st a := LO (by omega) (by omega)
  rw [w1, w2]
  unfold bS
  rw [y1, y2]
  by_cases c1 : j = (HX st a).toNat
  ·rw [decide_eq_true c1, if_neg (by omega), if_pos (by omega), <- c1]; rfl
  ·rw [decide_eq_false c1]
   by_cases c2 : j = (IP st a).toNat
   ·rw [decide_eq_true c2, if_pos (by omega), <- c2]; simp only [cond_false, cond_true]; omega
   ·rw [decide_eq_false c2, if_neg (by omega), if_neg (by omega)]; simp only [cond_false]; omega
theorem MI.run {st : Int} (hst : 2 <= st /\ st <= 8) : ∀ (k : Nat) (a : MS) (K : Int), StmB K a.s -> K + 10 * k <= 100000000000 -> a.r.length + k <= 14 -> MI st a -> MI st (Ci k st a) /\ StmB (K + 10 * k) (Ci k st a).s /\ (Ci k st a).r.length = a.r.length + k
 | 0, a, K, hs, hK, hr, h => ⟨h, hs.mono (by omega), rfl⟩
 | k + 1, a, K, hs, hK, hr, h => by
  obtain ⟨n1, n2, n3⟩ := Us st a
  obtain ⟨a1, a2, a3⟩ := MI.run hst k (FZ st a) (K + 5) (Kf hst hs (by omega)).s (by omega) (by omega) (h.step hst hs (by omega) (by omega))
  simp only [Ci]
  exact ⟨a1, a2.mono (by omega), by omega⟩
structure GI (m : List Int) (k : Nat) (a : GS) : Prop where
 g : a.g.length = k
 t : a.t.length = k
 v : ∀ j, j < k -> gD a.t j = -gD m j /\ gD a.t j - 8 <= (gD a.g j).lo /\ (gD a.g j).lo <= gD a.t j /\ gD a.t j <= (gD a.g j).hi /\ (gD a.g j).hi <= gD a.t j + 8
theorem GI.run {m : List Int} (hm : ∀ j, j < m.length -> -1680 <= gD m j /\ gD m j <= 1680) : ∀ (n k : Nat) (a : GS) (K : Int), n + k = m.length -> StmB K a.s -> K + 10 * n <= 100000000000 -> GI m k a -> GI m m.length (Ju (m.drop k) a) /\ StmB (K + 10 * n) (Ju (m.drop k) a).s
 | 0, k, a, K, hn, hs, hK, h => by
  rw [List.drop_eq_nil_of_le (by omega)]
  refine ⟨?_, hs.mono (by omega)⟩
  rw [show m.length = k by omega]; exact h
 | n + 1, k, a, K, hn, hs, hK, h => by
  have hk : k < m.length := by omega
  have hb := hm k hk
  rw [ED hk]
  simp only [Ju]
  have ex : wr (-gD m k) = -gD m k := LO (by omega) (by omega)
  rw [ex]
  have t1 := hs.next (by omega) 9
  have t2 := t1.next (by omega) 9
  have v1 := OJ hs (by omega) 9
  have v2 := OJ t1 (by omega) 9
  have v1' := v1.2 (by omega)
  have v2' := v2.2 (by omega)
  have elo : wr (-gD m k - EB a.s 9) = -gD m k - EB a.s 9 := LO (by omega) (by omega)
  have ehi : wr (-gD m k + EB (FA a.s 9) 9) = -gD m k + EB (FA a.s 9) 9 := LO (by omega) (by omega)
  obtain ⟨n1, n2⟩ := ABH (-gD m k) a
  have hg := h.g
  have ht := h.t
  obtain ⟨a1, a2⟩ := GI.run hm n (k + 1) (NK (-gD m k) a) (K + 2) (by omega) (by rw [mg_s]; exact t2.mono (by omega)) (by omega) ⟨by omega, by omega, λ j hj => by
   have x1 := mg_g (-gD m k) a (i := j) (by omega)
   have x2 := mg_t (-gD m k) a (i := j) (by omega)
   rw [elo, ehi] at x1
   by_cases hjk : j < k
   ·rw [decide_eq_true (show j < a.g.length by omega)] at x1
    rw [decide_eq_true (show j < a.t.length by omega)] at x2
    simp only [cond_true] at x1 x2
    rw [x1.1, x1.2, x2]; exact h.v j hjk
   ·rw [decide_eq_false (show ¬ j < a.g.length by omega)] at x1
    rw [decide_eq_false (show ¬ j < a.t.length by omega)] at x2
    simp only [cond_false] at x1 x2
    rw [x1.1, x1.2, x2, show j = k by omega]; omega⟩
  exact ⟨a1, a2.mono (by omega)⟩
structure Made (N : NetL) (T : TruthL) (most : Int) : Prop where
 g1 : 1 <= N.g.length
 gm : (N.g.length : Int) <= most
 r11 : N.r.length <= 11
 fl : T.f.length = N.r.length
 tl : T.t.length = N.g.length
 one : N.g.length = 1 -> N.r.length = 0
 r : ∀ i, i < N.r.length -> ((0 <= (gD N.r i).fr /\ (gD N.r i).fr < N.g.length) /\ (0 <= (gD N.r i).to /\ (gD N.r i).to < N.g.length) /\ (gD N.r i).fr ≠ (gD N.r i).to) /\ (-20 <= gD T.f i /\ gD T.f i <= 120) /\ gD T.f i - 8 <= (gD N.r i).sp.lo /\ (gD N.r i).sp.lo <= gD T.f i /\ gD T.f i <= (gD N.r i).sp.hi /\ (gD N.r i).sp.hi <= gD T.f i + 8
 t : ∀ j, j < N.g.length -> (-1680 <= gD T.t j /\ gD T.t j <= 1680) /\ gD T.t j - 8 <= (gD N.g j).lo /\ (gD N.g j).lo <= gD T.t j /\ gD T.t j <= (gD N.g j).hi /\ (gD N.g j).hi <= gD T.t j + 8
 bal : ∀ s, s < N.g.length -> Im N T s = 0
variable {N : NetL} {T : TruthL} {most : Int}
theorem Made.good (h : Made N T most) (hm : most <= 8) : Good N := by
 have := h.gm
 have := h.r11
 refine ⟨h.g1, by omega, by omega, λ j hj => ?_, λ i hi => ?_⟩
 ·have := h.t j hj; omega
 ·obtain ⟨⟨a, b, c⟩, d⟩ := h.r i hi
  exact ⟨by omega, a, b, c⟩
theorem Made.check (h : Made N T most) (hm : most <= 8) : AC N = 0 := Od (h.good hm)
theorem Made.can (h : Made N T most) (hm : most <= 8) : Can N T := by
 rw [PD (h.check hm)]
 exact ⟨⟨h.fl, h.tl⟩, λ i hi => by have := h.r i hi; omega, λ j hj => by have := h.t j hj; omega, h.bal⟩
theorem Made.set (h : Made N T most) (hm : most <= 8) : BK N = 0 := Vj (h.can hm)
end Go.Bal

namespace Go.Bal
open Go Go.Sym Go.Proofs
def A14 := ann 108 [(49, C49.spec d49), (34, C34.spec QO), (20, C20.spec QO), (24, C24.spec d24), (21, C21.spec QO), (25, C25.spec QO), (35, C35.spec d35), (50, s50), (37, C37.spec d37), (27, C27.spec d27)]
def V14 (n : Nat) : Prop := BC Try.prog A14 Try.f14 (AH Try.f14) [] (AE []) (.bool true) [] [] []
theorem vc14 (n : Nat) : (V14 n) = (let y0 := Int.ofNat (105 : Nat) = Int.ofNat (105 : Nat)
 let y1 := Int.ofNat (130 : Nat) = Int.ofNat (130 : Nat)
 let y2 := (3 : Nat) = (3 : Nat)
 let y3 : NetL := KF (105 : Int) (130 : Int)
 let y4 : List Span := y3.g
 let y5 (i : Nat) : Span := gD y4 i
 let y6 : List Span := AD y4.length λ (i : Nat) => y5 i
 let y7 (i : Nat) : Span := gD y6 i
 let y8 := ∀ (i : Nat), i < (3 : Nat) -> (y7 i).lo = (y5 i).lo /\ (y7 i).hi = (y5 i).hi
 let y9 := (2 : Nat) = (2 : Nat)
 let y10 : List Reach := y3.r
 let y11 (i : Nat) : Reach := gD y10 i
 let y12 : List Reach := AD y10.length λ (i : Nat) => y11 i
 let y13 (i : Nat) : Reach := gD y12 i
 let y14 (i : Nat) : Span := (y13 i).sp
 let y15 (i : Nat) : Span := (y11 i).sp
 let y16 := ∀ (i : Nat), i < (2 : Nat) -> (y13 i).fr = (y11 i).fr /\ (y13 i).to = (y11 i).to /\ (y14 i).lo = (y15 i).lo /\ (y14 i).hi = (y15 i).hi
 let y17 := Int.ofNat (0 : Nat) = Int.ofNat (0 : Nat)
 let y18 := ¬(0 : Int) < BK (NetL.mk (AD (3 : Nat) λ (i : Nat) => y5 i) (AD (2 : Nat) λ (i : Nat) => y11 i))
 let y19 : NetL := NetL.mk y6 y12
 let y20 := Int.ofNat (140 : Nat) = Int.ofNat (140 : Nat)
 let y21 := Int.ofNat (150 : Nat) = Int.ofNat (150 : Nat)
 let y22 : NetL := KF (140 : Int) (150 : Int)
 let y23 : List Span := y22.g
 let y24 (i : Nat) : Span := gD y23 i
 let y25 : List Span := AD y23.length λ (i : Nat) => y24 i
 let y26 (i : Nat) : Span := gD y25 i
 let y27 := ∀ (i : Nat), i < (3 : Nat) -> (y26 i).lo = (y24 i).lo /\ (y26 i).hi = (y24 i).hi
 let y28 : List Reach := y22.r
 let y29 (i : Nat) : Reach := gD y28 i
 let y30 : List Reach := AD y28.length λ (i : Nat) => y29 i
 let y31 (i : Nat) : Reach := gD y30 i
 let y32 (i : Nat) : Span := (y31 i).sp
 let y33 (i : Nat) : Span := (y29 i).sp
 let y34 := ∀ (i : Nat), i < (2 : Nat) -> (y31 i).fr = (y29 i).fr /\ (y31 i).to = (y29 i).to /\ (y32 i).lo = (y33 i).lo /\ (y32 i).hi = (y33 i).hi
 let y35 (i : Nat) := decide (i = (0 : Nat))
 let y36 (i : Nat) := decide (i - (1 : Nat) = (0 : Nat))
 let y37 : List Int := AD (3 : Nat) λ (i : Nat) => bif y35 i then (0 : Int) else bif y36 i then (-1 : Int) else (0 : Int)
 let y38 (j : Nat) := (0 : Nat) + j
 let y39 (j : Nat) := decide (y38 j = (0 : Nat))
 let y40 : NetL := NetL.mk y25 y30
 let y41 : List Span := OE y19
 let y42 (i : Nat) : Span := gD y41 i
 let y43 (i : Nat) : Span := gD (AD y41.length λ (i : Nat) => y42 i) i
 let y44 (i : Nat) := bif y35 i then (100 : Int) else (105 : Int)
 let y45 (i : Nat) := bif y35 i then (115 : Int) else (125 : Int)
 let y46 : List Span := AD (2 : Nat) λ (i : Nat) => Span.mk (y44 i) (y45 i)
 let y47 (i : Nat) : Span := gD y46 i
 let y48 : List Span := TN y19
 let y49 (i : Nat) : Span := gD y48 i
 let y50 (i : Nat) : Span := gD (AD y48.length λ (i : Nat) => y49 i) i
 let y51 (i : Nat) := bif y35 i then (100 : Int) else bif y36 i then (0 : Int) else (-125 : Int)
 let y52 (i : Nat) := bif y35 i then (115 : Int) else bif y36 i then (10 : Int) else (-105 : Int)
 let y53 : List Span := AD (3 : Nat) λ (i : Nat) => Span.mk (y51 i) (y52 i)
 let y54 (i : Nat) : Span := gD y53 i
 let y55 := (1 : Nat) = (1 : Nat)
 let y56 : List Int := BE y40 y30.length
 let y57 (i : Nat) := gD y56 i
 let y58 : List Int := AD (1 : Nat) λ (i : Nat) => (1 : Int)
 ((y0 /\ y1 /\ y2 /\ y8 /\ y9 /\ y16 /\ y17 /\ true = true /\ y18 /\ ∀ (i : Nat), i < (5 : Nat) -> (CX (AB y19) (↑i : Int)).isSome = true) /\ (y20 /\ y21 /\
 y2 /\ y27 /\ y9 /\ y34 /\ y17 /\ true = true) /\ (y20 /\ y21 /\ y2 /\ y27 /\ y9 /\ y34 /\ Int.ofNat (15 : Nat) = Int.ofNat (15 : Nat) /\ y2 /\ (3 : Nat) <= (3 : Nat) /\ (∀ (j : Nat), j < (3 : Nat) ->
 gD y37 j = bif y39 j then (0 : Int) else bif decide (y38 j - (1 : Nat) = (0 : Nat)) then (-1 : Int) else (0 : Int)) /\ y37.length.succ.le (4611686018427387904 : Nat)) /\ (y20 /\ y21 /\ y2 /\ y27 /\
 y9 /\ y34 /\ y17 /\ true = true /\ true = true) /\ (y20 /\ y21 /\ y2 /\ y27 /\ y9 /\ y34 /\ y17 /\ true = true /\ BK (NetL.mk (AD (3 : Nat) λ (i : Nat) => y24 i) (AD (2 : Nat) λ (i : Nat) =>
 y29 i)) ≠ (0 : Int) /\ ∀ (i : Nat), i < (2 : Nat) -> (CG (CK y40 i)).isSome = true) /\ (y0 /\ y1 /\ y2 /\ y8 /\ y9 /\ y16 /\ y9 /\ (2 : Nat) <= (2 : Nat) /\ (∀ (j : Nat), j < (2 : Nat) -> gD (AD (2
 : Nat) λ (i : Nat) => bif y35 i then (0 : Int) else (1 : Int)) j = bif y39 j then (0 : Int) else (1 : Int)) /\ y17 /\ true = true /\ y18 /\ false = false /\ ((0 : Nat) < (2 : Nat) /\ (2 : Nat) <= (1000000 : Nat))
 /\ true = true) /\ ((true = true -> y9 /\ (∀ (i : Nat), i < (2 : Nat) -> (y43 i).lo = (y42 i).lo /\ (y43 i).hi = (y42 i).hi) /\ y9 /\ (∀ (i : Nat), i < (2 : Nat) -> (y47 i).lo = y44 i /\ (y47 i).hi =
 y45 i) /\ (2 : Nat) < (4611686018427387904 : Nat) /\ y46.length.succ.le (4611686018427387904 : Nat)) /\ (true = true -> y2 /\ (∀ (i : Nat), i < (3 : Nat) -> (y50 i).lo = (y49 i).lo /\ (y50 i).hi = (y49 i).hi) /\ y2 /\ (∀ (i : Nat), i < (3 : Nat) -> (y54 i).lo = y51 i /\ (y54 i).hi = y52 i) /\ (3 : Nat) < (4611686018427387904 : Nat) /\ y53.length.succ.le (4611686018427387904 : Nat)) /\ (true = true -> y55 /\
 (∀ (i : Nat), i < (1 : Nat) -> gD (AD y56.length λ (i : Nat) => y57 i) i = y57 i) /\ y55 /\ (∀ (i : Nat), i < (1 : Nat) -> gD y58 i = (1 : Int)) /\ (1 : Nat) < (4611686018427387904 : Nat) /\
 y58.length.succ.le (4611686018427387904 : Nat))) /\ true = true)) := by kernel_rfl
def f14 : List AVal -> Option (AVal × List Prop)
 | [] => some (.bool true, [])
 | _ => none
def s14 : Sym.Spec := DX f14
theorem p14 : V14 0 := by
 rw [vc14]; (conv => zeta); simp only [CC, eq_self, implies_true, forall_const]
 decide +kernel
theorem ok14 : AI Try.prog 14 s14 := CE λ xs v p h _ => by
 unfold f14 at h; split at h
 ·cases h; exact NE (A := A14) (ren := []) (fz := []) Try.func14 (by kernel_rfl) (AA ok49 (AA ok34 (AA ok20 (AA ok24 (AA ok21 (AA ok25 (AA ok35 (AA ok50 (AA ok37 (AA ok27 AF)))))))))) p14
 ·cases h
end Go.Bal

set_option maxRecDepth 100000
namespace Go.Bal
open Go Go.Sym Go.Proofs Go.ChangeShapes Go.WideShapes Go.RowKit
def TO (w : World) : Imm := λ b => match w.heap[b]? with
 | some (.cells c _ _) => some c
 | _ => none
theorem Ug (w : World) (ι : Nat -> Pl) : HRel (TO w) ι (AE []) w := by
 refine ⟨λ i o h => by simp [AE, DT] at h, λ i j o o' h => by simp [AE, DT] at h, λ i o h => by simp [AE, DT] at h, λ b c h => ?_⟩
 unfold TO at h
 split at h
 ·rename_i c' e fr hc
  cases h
  exact ⟨e, fr, hc⟩
 ·cases h
theorem Ky {w : World} {b off : Nat} {v : Value} (h : w.cell? ⟨b, off, none⟩ = some v) : ∃ c, TO w b = some c /\ c[off]? = some v := by
 unfold World.cell? at h
 simp only at h
 split at h
 ·rename_i c e fr hc
  simp only [Option.isSome_none, Bool.false_eq_true, ↓reduceIte] at h
  exact ⟨c, by unfold TO; rw [hc], h⟩
 ·cases h
section
variable {X : Type} {enc : TypeId × Value -> X} {P : Program} {w : World} {base : Nat} {spare : Nat -> Bool} {held : Bool}
def Bq (X : Type) (enc : TypeId × Value -> X) (P : Program) (w : World) (base : Nat) (spare : Nat -> Bool) (held : Bool) (e : TypeId) (k : Nat) {α : Type} (en : α -> DVal) : Prop :=
 P.cellsOf e = k /\ ∀ (fuel : Nat) (cs : List Value) (x : DataW X × List MemPlace), DataW.trod enc P w base spare held fuel e cs = some x -> cs.length = k -> ∃ d : α, (en d).cells1 = cs.map DVal.v /\ BY (en d).cells1 = true
theorem Jv {α : Type} [Inhabited α] {t e : TypeId} {k : Nat} {en : α -> DVal} (hk : 0 < k) (ht : P.underlying t = some (.slice e)) (he : Bq X enc P w base spare held e k en) {fuel : Nat} {v : Value} {x : DataW X × List MemPlace}
  (h : DataW.trod enc P w base spare held fuel t [v] = some x) : ∃ l : List α, DRel (TO w) (Up k l.length λ i => en (gD l i)) v := by
 rcases DataW.trod_slice ht h with ⟨h0, _⟩ | ⟨a, len, cap, elems, rest, n, _, hv, _, hb, hl, hm, hlen, hel, _⟩
 ·cases h0
  exact ⟨[], .nil (λ h => by cases h) (.inl rfl)⟩
 ·cases hv
  by_cases h0 : len = 0
  ·subst h0
   exact ⟨[], .nil (λ h => by cases h) (.inr (by simp))⟩
  obtain ⟨hck, hE⟩ := he
  have each : ∀ i, ∃ (d : α) (cs : List Value), i < len -> w.cells? base (a.add (i * k)) k = some cs /\ (en d).cells1 = cs.map DVal.v /\ BY (en d).cells1 = true := by
   intro i
   by_cases hi : i < len
   ·have h1 := hel i hi
    have h2 : elems[i]? = some (elems[i]'(by omega)) := List.getElem?_eq_getElem (by omega)
    rw [h2, Option.bind_eq_some_iff] at h1
    obtain ⟨cs, h3, h4⟩ := h1
    rw [hck] at h3
    obtain ⟨d, h5⟩ := hE n cs _ h4 (World.cells?_some h3).2.1
    exact ⟨d, cs, λ _ => ⟨h3, h5⟩⟩
   ·exact ⟨default, [], λ h => absurd h hi⟩
  have cell : ∀ i j, i < len -> j < k -> ∃ y, (en (Classical.choose (each i))).cells1[j]? = some (.v y) /\ w.cell? ((a.add (i * k)).add j) = some y := by
   intro i j hi hj
   obtain ⟨cs, hcs⟩ := Classical.choose_spec (each i)
   obtain ⟨h1, h2, _⟩ := hcs hi
   obtain ⟨_, h3, h4⟩ := World.cells?_some h1
   have h5 : cs[j]? = some (cs[j]'(by omega)) := List.getElem?_eq_getElem (by omega)
   refine ⟨cs[j]'(by omega), ?_, ?_⟩
   ·rw [h2, List.getElem?_map, h5]; rfl
   ·rw [h4 j hj, h5]
  have hspot : a.spot = none := by
   obtain ⟨y, _, h1⟩ := cell 0 0 (by omega) hk
   have := World.cell?_spot h1
   simpa [Addr.add] using this
  obtain ⟨b, off, spot⟩ := a
  simp only at hspot
  subst hspot
  have cell' : ∀ i j, i < len -> j < k -> ∃ y, (en (Classical.choose (each i))).cells1[j]? = some (.v y) /\ w.cell? ⟨b, off + i * k + j, none⟩ = some y := by
   intro i j hi hj
   obtain ⟨y, h1, h2⟩ := cell i j hi hj
   refine ⟨y, h1, ?_⟩
   have : ((Addr.mk b off none).add (i * k)).add j = ⟨b, off + i * k + j, none⟩ := by
    unfold Addr.add
    split <;> split <;> simp_all
   rw [<- this]; exact h2
  obtain ⟨y0, _, hc0⟩ := cell' 0 0 (by omega) hk
  obtain ⟨c, hB, _⟩ := Ky hc0
  have at' : ∀ i j, i < len -> j < k -> ∃ y, (en (Classical.choose (each i))).cells1[j]? = some (.v y) /\ c[off + i * k + j]? = some y := by
   intro i j hi hj
   obtain ⟨y, h1, h2⟩ := cell' i j hi hj
   obtain ⟨c', h3, h4⟩ := Ky h2
   rw [hB] at h3; cases h3
   exact ⟨y, h1, h4⟩
  have hg : ∀ i, i < len -> gD ((List.range len).map λ i => Classical.choose (each i)) i = Classical.choose (each i) := λ i hi => BZ _ hi
  have hll : ((List.range len).map λ i => Classical.choose (each i)).length = len := by simp
  refine ⟨(List.range len).map λ i => Classical.choose (each i), ?_⟩
  rw [hll]
  have e1 : ∀ i, i < len -> (en (Classical.choose (each i))).cells1.length = k := by
   intro i hi
   obtain ⟨cs, hcs⟩ := Classical.choose_spec (each i)
   obtain ⟨h1, h2, _⟩ := hcs hi
   rw [h2, List.length_map]; exact (World.cells?_some h1).2.1
  refine DRel.list (by omega) hB hl (λ h => by cases h) (λ i hi => ?_) ?_ (λ i j x y hi hx hy => ?_)
  ·rw [hg i hi]
   obtain ⟨cs, hcs⟩ := Classical.choose_spec (each i)
   exact ⟨e1 i hi, (hcs hi).2.2⟩
  ·obtain ⟨y, _, h1⟩ := at' (len - 1) (k - 1) (by omega) (by omega)
   have h2 := (Array.getElem?_eq_some_iff.1 h1).1
   have h3 : len * k = (len - 1) * k + k := by
    obtain ⟨m, rfl⟩ : ∃ m, len = m + 1 := ⟨len - 1, by omega⟩
    rw [Nat.add_sub_cancel, Nat.succ_mul]
   omega
  ·rw [hg i hi] at hx
   have hj : j < k := by
    have := (List.getElem?_eq_some_iff.1 hx).1
    have := e1 i hi
    omega
   obtain ⟨z, h1, h2⟩ := at' i j hi hj
   rw [h1] at hx; rw [h2] at hy
   cases hx; cases hy
   exact .v _
theorem Wi {e : TypeId} (he : P.underlying e = some (.int .i64)) (hc : P.cellsOf e = 1) : Bq X enc P w base spare held e 1 CI := by
 refine ⟨hc, λ fuel cs x h hl => ?_⟩
 obtain ⟨n, rfl, _, _⟩ := DataW.trod_int he h
 exact ⟨n, rfl, rfl⟩
theorem TE {e : TypeId} {fuel : Nat} {cs : List Value} {x : DataW X × List MemPlace} (he : P.underlying e = some (.int .i64)) (h : DataW.trod enc P w base spare held fuel e cs = some x) : ∃ n, cs = [.int .i64 n] := by
 obtain ⟨n, h1, _, _⟩ := DataW.trod_int he h
 exact ⟨n, h1⟩
end
section
variable {X : Type} {enc : TypeId × Value -> X} {w : World} {base : Nat} {spare : Nat -> Bool} {held : Bool}
theorem Fy : Bq X enc Try.prog w base spare held 61 2 EU := by
 refine ⟨by kernel_rfl, λ fuel cs x h hl => ?_⟩
 obtain ⟨xs, n, _, _, _, hx, hf⟩ := DataW.trod_struct Try.underlying61 h
 have hx : xs.length = 2 := hx
 have c3 : Try.prog.cellsOf 3 = 1 := by kernel_rfl
 match cs, hl with
 | [a, b], _ =>
  have h0 : DataW.trod enc Try.prog w base spare held n 3 (([a, b].drop 0).take (Try.prog.cellsOf 3)) = xs[0]? := hf 0 _ rfl
  have h1 : DataW.trod enc Try.prog w base spare held n 3 (([a, b].drop 1).take (Try.prog.cellsOf 3)) = xs[1]? := hf 1 _ rfl
  rw [c3] at h0 h1
  rw [List.getElem?_eq_getElem (by omega)] at h0 h1
  obtain ⟨p, hp⟩ := TE Try.underlying3 h0
  obtain ⟨q, hq⟩ := TE Try.underlying3 h1
  simp only [List.drop_zero, List.drop_succ_cons, List.take_succ_cons, List.take_zero, List.cons.injEq, and_true] at hp hq
  subst hp hq
  exact ⟨⟨p, q⟩, rfl, rfl⟩
theorem Nn : Bq X enc Try.prog w base spare held 63 4 MU := by
 refine ⟨by kernel_rfl, λ fuel cs x h hl => ?_⟩
 obtain ⟨xs, n, _, _, _, hx, hf⟩ := DataW.trod_struct Try.underlying63 h
 have hx : xs.length = 3 := hx
 have c3 : Try.prog.cellsOf 3 = 1 := by kernel_rfl
 have c61 : Try.prog.cellsOf 61 = 2 := by kernel_rfl
 match cs, hl with
 | [a, b, c, d], _ =>
  have h0 : DataW.trod enc Try.prog w base spare held n 3 (([a, b, c, d].drop 0).take (Try.prog.cellsOf 3)) = xs[0]? := hf 0 _ rfl
  have h1 : DataW.trod enc Try.prog w base spare held n 3 (([a, b, c, d].drop 1).take (Try.prog.cellsOf 3)) = xs[1]? := hf 1 _ rfl
  have h2 : DataW.trod enc Try.prog w base spare held n 61 (([a, b, c, d].drop 2).take (Try.prog.cellsOf 61)) = xs[2]? := hf 2 _ rfl
  rw [c3] at h0 h1
  rw [c61] at h2
  rw [List.getElem?_eq_getElem (by omega)] at h0 h1 h2
  obtain ⟨p, hp⟩ := TE Try.underlying3 h0
  obtain ⟨q, hq⟩ := TE Try.underlying3 h1
  simp only [List.drop_zero, List.drop_succ_cons, List.take_succ_cons, List.take_zero, List.cons.injEq, and_true] at hp hq h2
  subst hp hq
  obtain ⟨⟨s, t⟩, he, _⟩ := Fy.2 n _ _ h2 rfl
  have he : [DVal.v (.int .i64 s), DVal.v (.int .i64 t)] = [DVal.v c, DVal.v d] := he
  cases he
  exact ⟨⟨p, q, ⟨s, t⟩⟩, rfl, rfl⟩
theorem ABK : Bq X enc Try.prog w base spare held 3 1 CI := Wi Try.underlying3 (by kernel_rfl)
theorem Zn {a b : DVal} {x y : Value} {B : Imm} (h1 : DRel B a x) (h2 : DRel B b y) : DRel B (.agg [a, b]) (.agg #[x, y]) := by
 refine .agg rfl λ j p q hp hq => ?_
 match j with
 | 0 => cases hp; cases hq; exact h1
 | 1 => cases hp; cases hq; exact h2
 | j + 2 => simp at hp
theorem Na {t f0 f1 : TypeId} {fs : Array Field} {v : Value} {d : DataW X} {ps : List MemPlace} {r : Go.Reach} {b0 : Nat} (ht : Try.prog.underlying t = some (.struct fs)) (hc : Try.prog.cellsOf t = 2)
  (h0 : (fs[0]?).map (λ f => (f.type, f.offset)) = some (f0, 0)) (h1 : (fs[1]?).map (λ f => (f.type, f.offset)) = some (f1, 1)) (c0 : Try.prog.cellsOf f0 = 1) (c1 : Try.prog.cellsOf f1 = 1)
  (hv : Value.okWide Try.prog w r b0 t v) (h : DataW.Trod enc Try.prog w base spare held t v d ps) :
  ∃ a b fuel x y, v = .agg #[a, b] /\ DataW.trod enc Try.prog w base spare held fuel f0 [a] = some x /\ DataW.trod enc Try.prog w base spare held fuel f1 [b] = some y := by
 obtain ⟨cs, rfl, hs⟩ := okWide_struct ht hv
 rw [hc] at hs
 obtain ⟨fuel, hf⟩ := h
 obtain ⟨xs, n, _, _, _, hx, hff⟩ := DataW.trod_struct ht hf
 cases hq0 : fs[0]? with
 | none => rw [hq0] at h0; cases h0
 | some g0 =>
  cases hq1 : fs[1]? with
  | none => rw [hq1] at h1; cases h1
  | some g1 =>
   rw [hq0] at h0; rw [hq1] at h1
   simp only [Option.map_some, Option.some.injEq, Prod.mk.injEq] at h0 h1
   obtain ⟨rfl, e0⟩ := h0
   obtain ⟨rfl, e1⟩ := h1
   have k0 := hff 0 g0 hq0
   have k1 := hff 1 g1 hq1
   have s0 := (Array.getElem?_eq_some_iff.1 hq0).1
   have s1 := (Array.getElem?_eq_some_iff.1 hq1).1
   rw [List.getElem?_eq_getElem (by omega), c0, e0] at k0
   rw [List.getElem?_eq_getElem (by omega), c1, e1] at k1
   obtain ⟨l⟩ := cs
   match l, hs with
   | [a, b], _ => exact ⟨a, b, n, _, _, rfl, k0, k1⟩
theorem Zf {v : Value} {d : DataW X} {ps : List MemPlace} {r : Go.Reach} {b0 : Nat} (hv : Value.okWide Try.prog w r b0 25 v) (h : DataW.Trod enc Try.prog w base spare held 25 v d ps) : ∃ N : NetL, DRel (TO w) (EI N) v := by
 obtain ⟨a, b, fuel, x, y, rfl, h0, h1⟩ := Na Try.underlying25 (by kernel_rfl) (f0 := 22) (f1 := 23) rfl rfl (by kernel_rfl) (by kernel_rfl) hv h
 obtain ⟨g, hg⟩ := Jv (by omega) Try.underlying22 Fy h0
 obtain ⟨l, hl⟩ := Jv (by omega) Try.underlying23 Nn h1
 exact ⟨⟨g, l⟩, Zn hg hl⟩
theorem Tz {v : Value} {d : DataW X} {ps : List MemPlace} {r : Go.Reach} {b0 : Nat} (hv : Value.okWide Try.prog w r b0 26 v) (h : DataW.Trod enc Try.prog w base spare held 26 v d ps) : ∃ l : List Int, DRel (TO w) (AW l) v := by
 obtain ⟨a, len, cap, rfl⟩ := okWide_slice Try.underlying26 hv
 obtain ⟨fuel, hf⟩ := h
 exact Jv (by omega) Try.underlying26 ABK hf
end
theorem Sl {g : FuncId} {xs : List AVal} (hg : FnT Try.prog g xs (AE []) (.bool true) []) {w : World} {vs : Array Value} (hl : vs.size = xs.length)
  (hx : ∀ (j : Nat) (a : AVal) (y : Value), xs[j]? = some a -> vs[j]? = some y -> ∃ d, a = .d d /\ DRel (TO w) d y) :
  Calls Try.prog g vs w λ e w' => e = .returned (.bool true) /\ Below w.heap.size w w' := by
 refine (hg.2 (TO w) (λ _ => ⟨0, 0⟩) w vs ⟨hl, λ j a y ha hy => ?_⟩ (Ug w _)).mono λ e w' ⟨v, H', he, _, B', ι', hm, hv⟩ => ?_
 ·obtain ⟨d, rfl, hd⟩ := hx j a y ha hy
  exact .d hd
 ·subst he
  cases hv with
  | d hd =>
   cases hd
   exact ⟨rfl, hm.calm.os, hm.calm.tape, hm.calm.output, hm.size, λ k hk => hm.frame k hk λ i o h => by simp [AE, DT] at h⟩
end Go.Bal

set_option maxRecDepth 100000
namespace Go.Bal
open Go Go.Sym Go.Proofs Go.ChangeShapes Go.WideShapes Go.RowKit
section
variable {X : Type} {enc : TypeId × Value -> X} {w : World} {base : Nat} {spare : Nat -> Bool} {held : Bool}
abbrev Byt := { n : Int // 0 <= n /\ n <= 255 }
instance : Inhabited Byt := ⟨⟨0, by decide, by decide⟩⟩
theorem Qk {v : Value} {d : DataW X} {ps : List MemPlace} {r : Go.Reach} {b0 : Nat} (hv : Value.okWide Try.prog w r b0 3 v) (h : DataW.Trod enc Try.prog w base spare held 3 v d ps) : ∃ n : Int, (-9223372036854775808 <= n /\ n <= 9223372036854775807) /\ DRel (TO w) (.v (.int .i64 n)) v := by
 obtain ⟨m, rfl⟩ := okWide_int Try.underlying3 hv
 obtain ⟨fuel, hf⟩ := h
 obtain ⟨n, e, _, hw⟩ := DataW.trod_int Try.underlying3 hf
 have e : [Value.int .i64 m] = [.int .i64 n] := e
 cases e
 have hw : (decide (IntKind.i64.min <= m) && decide (m <= IntKind.i64.max)) = true := hw
 simp only [Bool.and_eq_true, decide_eq_true_eq] at hw
 have e1 : IntKind.i64.min = -9223372036854775808 := rfl
 have e2 : IntKind.i64.max = 9223372036854775807 := rfl
 exact ⟨m, ⟨by omega, by omega⟩, .v _⟩
end
end Go.Bal

namespace Go.Bal
open Go Go.Sym Go.Proofs
def dP (a : List AVal) (H : Heap) : Option (NPL × List (Nat × Nat) × List Nat) := match a with
 | [x, .d (.v (.int _ p)), y] => match Si x H, Uk y H with
  | some (N, f), some (l, g) => some (⟨N, p, l⟩, [], f ++ g)
  | _, _ => none
 | _ => none
theorem ADA : AI Try.prog 24 (C24.spec dP) := HQ C24 A24 [] [] Try.func24 (λ _ => by kernel_rfl) (λ _ => AA Jt (AA Rh (AA ok65 (AA ok66 AF)))) (λ a h => p24 a h) (λ _ => IL rfl rfl) _
variable {N : NetL} {T : TruthL}
theorem Wm (h : Can N T) : EK N T = 0 /\ TK N T = [] /\ ZF N T = true /\ KS N T = 0 /\ RM N T = 0 := by
 have h1 := h.ask
 have h2 := h.unb
 have h3 := h.cost
 have e : KS N T = 0 := by unfold KS; rw [if_pos h1, h2]; rfl
 refine ⟨h1, ?_, ?_, e, ?_⟩
 ·unfold TK; rw [if_pos h1, h2]
 ·unfold ZF; rw [h1, h2, h3]; rfl
 ·unfold RM; rw [if_pos e, h3]
end Go.Bal

namespace Go.Bal
open Go Go.Sym Go.Proofs
def PB (r : Int) (s : Span) : Int := if r = 1 then s.lo else if r = -1 then wr (-s.hi) else 0
def V84 (x : Int) (s : Span) : Prop := BC Try.prog (ann 14 []) Try.f84 (AH Try.f84) [.int x, .d (EU s)] (AE []) (.int (PB x s)) [] [] []
theorem vc84 (x : Int) (s : Span) : (V84 x s) = (bif x == 1 then PB x s = s.lo else bif x == -1 then PB x s = IntKind.i64.wrap (0 - s.hi) else PB x s = 0) := by kernel_rfl
def f84 : List AVal -> Option (AVal × List Prop)
 | [.d (.v (.int .i64 x)), .d (.agg [.v (.int .i64 a), .v (.int .i64 b)])] => some (.int (PB x ⟨a, b⟩), [])
 | _ => none
def s84 := DX f84
theorem p84 (x : Int) (s : Span) : V84 x s := by
 rw [vc84]; unfold PB
 by_cases h1 : x = 1 <;> by_cases h2 : x = -1 <;> simp [h1, h2] <;> omega
theorem ok84 : AI Try.prog 84 s84 := CE λ xs v p h _ => by
 unfold f84 at h; split at h
 ·cases h; exact NE (A := ann 14 []) (ren := []) (fz := []) Try.func84 (by kernel_rfl) AF (p84 _ ⟨_, _⟩)
 ·cases h
def PQ (s : Span) (r x : Int) : Span := ⟨if r = -1 then max s.lo x else s.lo, if r = 1 then min s.hi (wr (-x)) else s.hi⟩
def V71 (s : Span) (r x : Int) : Prop := BC Try.prog (ann 23 []) Try.f71 (AH Try.f71) [.d (EU s), .int r, .int x] (AE []) (.d (EU (PQ s r x))) [] [] []
theorem vc71 (s : Span) (r : Int) (x : Int) : (V71 s r x) = (bif r == 1 then bif r == -1 then (PQ s r x).lo = Bc s.lo x /\ (PQ s r x).hi = Fl s.hi (IntKind.i64.wrap (0 - x)) else (PQ s r x).lo = s.lo /\ (PQ s r
 x).hi = Fl s.hi (IntKind.i64.wrap (0 - x)) else bif r == -1 then (PQ s r x).lo = Bc s.lo x /\ (PQ s r x).hi = s.hi else (PQ s r x).lo = s.lo /\ (PQ s r x).hi = s.hi) := by kernel_rfl
theorem p71 (s : Span) (r x : Int) : V71 s r x := by
 rw [vc71]; simp only [CC, eq_self, implies_true, forall_const, WH, VP, beq_iff_eq, beq_eq_false_iff_ne]; unfold PQ
 by_cases h1 : r = 1 <;> by_cases h2 : r = -1 <;> simp [h1, h2] <;> omega
def f71 : List AVal -> Option (AVal × List Prop)
 | [.d (.agg [.v (.int .i64 a), .v (.int .i64 b)]), .d (.v (.int .i64 r)), .d (.v (.int .i64 x))] => some (.d (EU (PQ ⟨a, b⟩ r x)), [])
 | _ => none
def s71 := DX f71
theorem ok71 : AI Try.prog 71 s71 := CE λ xs v p h _ => by
 unfold f71 at h; split at h
 ·cases h; exact NE (A := ann 23 []) (ren := []) (fz := []) Try.func71 (by kernel_rfl) AF (p71 ⟨_, _⟩ _ _)
 ·cases h
end Go.Bal
