/- Package rating: the ends of bounds by pairs of gaugings (no program in sight). -/
import Derived.Test.YtoihhodbkimedaaGreatRZ1
set_option linter.unusedVariables false
set_option linter.unusedSimpArgs false
namespace Go.Bal
open Go Go.Sym Go.Proofs
def Nh (r : Rt) : Rl := ⟨r.n, 0, r.d⟩
theorem QP (r : Rt) (t : Int) : (Nh r).num t = r.n := by unfold Nh Rl.num; simp
theorem BWF {s : List Gau} (h : Can s) {a b : Gau} (ha : a ∈ s) (hb : b ∈ s) : ∃ f : Rl, f.ok /\ f.pass a /\ f.pass b := by
 obtain ⟨x, h1, h2⟩ := h
 exact ⟨CH x, BO h1, h2 a ha, h2 b hb⟩
theorem Two.of {s : List Gau} (h : Can s) {a b : Gau} (ha : a ∈ s) (hb : b ∈ s) (hst : a.st < b.st) : Two a b := by
 obtain ⟨h1, h2, h3⟩ := (BNG hst).2 (BWF h ha hb)
 exact ⟨hst, h1, h2, h3⟩
theorem BWQ {s : List Gau} (h : Can s) {a b : Gau} (ha : a ∈ s) (hb : b ∈ s) (e : a.st = b.st) : max a.lo b.lo <= min a.hi b.hi := by
 obtain ⟨f, hf, h1, h2⟩ := BWF h ha hb
 exact AIL hf ((LC e hf).2 ⟨h1, h2⟩)
theorem RB {v : Int} {g : Gau} (h : g.lo <= v /\ v <= g.hi) : (Rl.mk v 0 1).ok /\ (Rl.mk v 0 1).pass g :=
 ⟨⟨Int.one_pos, Int.le_refl _⟩, by unfold Rl.pass Rl.num; simp only [Int.zero_mul, Int.mul_one, Int.add_zero]; exact h⟩
theorem rI (v t : Int) : (Rl.mk v 0 1).num t = v := by unfold Rl.num; simp
structure LoE (s : List Gau) (t : Int) (r : Rt) : Prop where
 d : 0 < r.d
 z : 0 <= r.n
 one : ∀ g ∈ s, g.st <= t -> g.lo * r.d <= r.n
 two : ∀ a ∈ s, ∀ b ∈ s, a.st < b.st -> (Ji a b t).num t * r.d <= r.n * (Ji a b t).w
 is : r.n = 0 ∨ (∃ g ∈ s, g.st <= t /\ g.lo * r.d = r.n) ∨ ∃ a ∈ s, ∃ b ∈ s, a.st < b.st /\ (Ji a b t).num t * r.d = r.n * (Ji a b t).w
structure HiE (s : List Gau) (t : Int) (r : Rt) : Prop where
 d : 0 < r.d
 z : r.n <= 200000 * r.d
 one : ∀ g ∈ s, t <= g.st -> r.n <= g.hi * r.d
 two : ∀ a ∈ s, ∀ b ∈ s, a.st < b.st -> r.n * (Jj a b t).w <= (Jj a b t).num t * r.d
 is : r.n = 200000 * r.d ∨ (∃ g ∈ s, t <= g.st /\ r.n = g.hi * r.d) ∨ ∃ a ∈ s, ∃ b ∈ s, a.st < b.st /\ r.n * (Jj a b t).w = (Jj a b t).num t * r.d
theorem CHD {f : Rl} {t : Int} (h : 0 < f.w) {r : Rt} (hd : 0 < r.d) (hz : r.n = 0) : HC (BS (Nh r) t) (BS f t) := by
 have e : BS (Nh r) t = ⟨0, r.d⟩ := by
  unfold BS
  rw [QP, hz, if_neg (by omega), show (Nh r).w = r.d from rfl, if_neg (show ¬200000 * r.d < 0 by omega)]
 rw [e]
 have hp : 0 <= (BS f t).n := by
  unfold BS; split
  ·exact Int.le_refl _
  ·split
   ·show (0 : Int) <= 200000; omega
   ·show 0 <= f.num t; omega
 show 0 * (BS f t).d <= (BS f t).n * r.d
 rw [Int.zero_mul]; exact Int.mul_nonneg hp (Int.le_of_lt hd)
theorem CGO {f : Rl} {t : Int} (h : 0 < f.w) {r : Rt} (hd : 0 < r.d) (hz : r.n = 200000 * r.d) : HC (BS f t) (BS (Nh r) t) := by
 have e : BS (Nh r) t = ⟨200000 * r.d, r.d⟩ := by
  unfold BS
  rw [QP, hz, if_neg (by omega), show (Nh r).w = r.d from rfl, if_neg (show ¬200000 * r.d < 200000 * r.d by omega)]
 rw [e]
 have hp : (BS f t).n <= 200000 * (BS f t).d := by
  unfold BS; split
  ·show (0 : Int) <= 200000 * 1; omega
  ·split
   ·show (200000 : Int) <= 200000 * 1; omega
   ·show f.num t <= 200000 * f.w; omega
 show (BS f t).n * r.d <= 200000 * r.d * (BS f t).d
 have := Int.mul_le_mul_of_nonneg_right hp (Int.le_of_lt hd)
 have e2 : 200000 * r.d * (BS f t).d = 200000 * (BS f t).d * r.d := by grind
 omega
theorem CUJ {s : List Gau} {t : Int} (hs : ∀ g ∈ s, DJ g) (ht : 0 <= t /\ t <= 2000) (hc : Can s) {r : Rt} (E : LoE s t r) : HC (FU s t).lo (BS (Nh r) t) /\ HC (BS (Nh r) t) (FU s t).lo := by
 obtain ⟨x0, hx0, px0⟩ := hc
 have hne : CR s t ≠ [] := Ge hs ht (BO hx0) px0
 have hc : Can s := ⟨x0, hx0, px0⟩
 have hin := (cR hs ht hne).1.1.1
 constructor
 ·have key : ∀ a b, a ∈ s -> b ∈ s -> a.st < b.st -> ∃ x : Rl, x.ok /\ x.pass a /\ x.pass b /\ leA t r.n r.d x := λ a b ha hb h => by
   obtain ⟨k1, k2, k3⟩ := AIT (Two.of hc ha hb h) t
   exact ⟨_, k1, k2, k3, E.two a ha b hb h⟩
  obtain ⟨f, f1, f2, f3⟩ := Z0 (s := s) (CWE t r.n r.d) (λ a b c ha hb hcc => ⟨CH x0, BO hx0, px0 a ha, px0 b hb, px0 c hcc⟩) (λ a b ha hb => by
   rcases Int.lt_trichotomy a.st b.st with q | q | q
   ·exact key a b ha hb q
   ·have hm := BWQ hc ha hb q
    have z0 := (hs a ha).2.2.1
    by_cases c1 : a.st <= t
    ·refine ⟨⟨max a.lo b.lo, 0, 1⟩, (RB (g := a) (by omega)).1, (RB (g := a) (by omega)).2, (RB (g := b) (by omega)).2, ?_⟩
     unfold leA
     rw [rI]
     show max a.lo b.lo * r.d <= r.n * 1
     have e1 := E.one a ha c1
     have e2 := E.one b hb (by omega)
     rcases Int.le_total a.lo b.lo with w | w
     ·rw [Int.max_eq_right w]; omega
     ·rw [Int.max_eq_left w]; omega
    ·have hv : (0 : Int) <= max a.lo b.lo := by omega
     have hp : ∀ g : Gau, g.st = a.st -> g.lo <= max a.lo b.lo /\ max a.lo b.lo <= g.hi -> (pt2 t 0 a.st (max a.lo b.lo)).pass g := λ g hg hh => by
      unfold Rl.pass
      rw [hg, CBP]
      show g.lo * (a.st - t) <= _ /\ _ <= g.hi * (a.st - t)
      exact ⟨Int.mul_le_mul_of_nonneg_right hh.1 (by omega), Int.mul_le_mul_of_nonneg_right hh.2 (by omega)⟩
     refine ⟨pt2 t 0 a.st (max a.lo b.lo), BFG (by omega) hv, hp a rfl (by omega), hp b q.symm (by omega), ?_⟩
     unfold leA
     rw [CEC]
     show 0 * (a.st - t) * r.d <= r.n * (a.st - t)
     rw [Int.zero_mul, Int.zero_mul]
     exact Int.mul_nonneg E.z (by omega)
   ·obtain ⟨x, x1, x2, x3, x4⟩ := key b a hb ha q
    exact ⟨x, x1, x3, x2, x4⟩) ⟨⟨0, 0, 1⟩, ⟨Int.one_pos, Int.le_refl _⟩, by unfold leA; rw [rI]; show 0 * r.d <= r.n * 1; rw [Int.zero_mul, Int.mul_one]; exact E.z⟩
  have l1 := AQF hs ht f1 f2
  refine CQ (Int.le_of_lt hin) (DX f1.1) (Int.le_of_lt (DX (f := Nh r) E.d)) l1 (IS f1.1 E.d ?_)
  rw [QP]
  exact f3
 ·obtain ⟨⟨y, oy, py, ey⟩, _⟩ := IC hs hne
  rw [ey, Ud oy (DX (f := Nh r) E.d)]
  have hf := BO oy
  rcases E.is with h | ⟨g, hg, h1, h2⟩ | ⟨a, ha, b, hb, h1, h2⟩
  ·exact CHD hf.1 E.d h
  ·refine IS E.d hf.1 ?_
   rw [QP]
   show r.n * (CH y).w <= (CH y).num t * r.d
   have p1 := (py g hg).1
   have p2 := Bf hf h1
   have := Int.mul_le_mul_of_nonneg_right (show g.lo * (CH y).w <= (CH y).num t by omega) (Int.le_of_lt E.d)
   have e : r.n * (CH y).w = g.lo * (CH y).w * r.d := by rw [<- h2]; grind
   omega
  ·refine IS E.d hf.1 ?_
   rw [QP]
   show r.n * (CH y).w <= (CH y).num t * r.d
   have T := Two.of hc ha hb h1
   have hl := BLO T t hf (py a ha) (py b hb)
   have hw : 0 < (Ji a b t).w := (AIT T t).1.1
   refine Int.le_of_mul_le_mul_right (?_ : _ * (Ji a b t).w <= _ * (Ji a b t).w) hw
   have := Int.mul_le_mul_of_nonneg_right hl (Int.le_of_lt E.d)
   have e1 : r.n * (CH y).w * (Ji a b t).w = (Ji a b t).num t * (CH y).w * r.d := by
    have : r.n * (CH y).w * (Ji a b t).w = r.n * (Ji a b t).w * (CH y).w := by grind
    rw [this, <- h2]; grind
   have e2 : (CH y).num t * r.d * (Ji a b t).w = (CH y).num t * (Ji a b t).w * r.d := by grind
   omega
theorem CTW {s : List Gau} {t : Int} (hs : ∀ g ∈ s, DJ g) (ht : 0 <= t /\ t <= 2000) (hc : Can s) {r : Rt} (E : HiE s t r) : HC (BS (Nh r) t) (FU s t).hi /\ HC (FU s t).hi (BS (Nh r) t) := by
 obtain ⟨x0, hx0, px0⟩ := hc
 have hne : CR s t ≠ [] := Ge hs ht (BO hx0) px0
 have hc : Can s := ⟨x0, hx0, px0⟩
 have hin := (cR hs ht hne).2.1.1.1
 constructor
 ·have key : ∀ a b, a ∈ s -> b ∈ s -> a.st < b.st -> ∃ x : Rl, x.ok /\ x.pass a /\ x.pass b /\ geA t r.n r.d x := λ a b ha hb h => by
   obtain ⟨k1, k2, k3⟩ := BGR (Two.of hc ha hb h) t
   exact ⟨_, k1, k2, k3, E.two a ha b hb h⟩
  obtain ⟨f, f1, f2, f3⟩ := Z0 (s := s) (CXH t r.n r.d) (λ a b c ha hb hcc => ⟨CH x0, BO hx0, px0 a ha, px0 b hb, px0 c hcc⟩) (λ a b ha hb => by
   rcases Int.lt_trichotomy a.st b.st with q | q | q
   ·exact key a b ha hb q
   ·have hm := BWQ hc ha hb q
    have z0 := (hs a ha).2.2.2.2
    by_cases c1 : t <= a.st
    ·refine ⟨⟨min a.hi b.hi, 0, 1⟩, (RB (g := a) (by omega)).1, (RB (g := a) (by omega)).2, (RB (g := b) (by omega)).2, ?_⟩
     unfold geA
     rw [rI]
     show r.n * 1 <= min a.hi b.hi * r.d
     have e1 := E.one a ha c1
     have e2 := E.one b hb (by omega)
     rcases Int.le_total a.hi b.hi with w | w
     ·rw [Int.min_eq_left w]; omega
     ·rw [Int.min_eq_right w]; omega
    ·have hv : max a.lo b.lo <= 200000 := by omega
     have hp : ∀ g : Gau, g.st = a.st -> g.lo <= max a.lo b.lo /\ max a.lo b.lo <= g.hi -> (pt2 a.st (max a.lo b.lo) t 200000).pass g := λ g hg hh => by
      unfold Rl.pass
      rw [hg, CEC]
      show g.lo * (t - a.st) <= _ /\ _ <= g.hi * (t - a.st)
      exact ⟨Int.mul_le_mul_of_nonneg_right hh.1 (by omega), Int.mul_le_mul_of_nonneg_right hh.2 (by omega)⟩
     refine ⟨pt2 a.st (max a.lo b.lo) t 200000, BFG (by omega) hv, hp a rfl (by omega), hp b q.symm (by omega), ?_⟩
     unfold geA
     rw [CBP]
     show r.n * (t - a.st) <= 200000 * (t - a.st) * r.d
     have := Int.mul_le_mul_of_nonneg_right E.z (show 0 <= t - a.st by omega)
     have e : 200000 * (t - a.st) * r.d = 200000 * r.d * (t - a.st) := by grind
     omega
   ·obtain ⟨x, x1, x2, x3, x4⟩ := key b a hb ha q
    exact ⟨x, x1, x3, x2, x4⟩) ⟨⟨200000, 0, 1⟩, ⟨Int.one_pos, Int.le_refl _⟩, by unfold geA; rw [rI]; show r.n * 1 <= 200000 * r.d; rw [Int.mul_one]; exact E.z⟩
  have l1 := BIZ hs ht f1 f2
  refine CQ (Int.le_of_lt (DX (f := Nh r) E.d)) (DX f1.1) (Int.le_of_lt hin) (IS E.d f1.1 ?_) l1
  rw [QP]
  exact f3
 ·obtain ⟨_, y, oy, py, ey⟩ := IC hs hne
  rw [ey, oE oy (DX (f := Nh r) E.d)]
  have hf := BO oy
  rcases E.is with h | ⟨g, hg, h1, h2⟩ | ⟨a, ha, b, hb, h1, h2⟩
  ·exact CGO hf.1 E.d h
  ·refine IS hf.1 E.d ?_
   rw [QP]
   show (CH y).num t * r.d <= r.n * (CH y).w
   have p1 := (py g hg).2
   have p2 := Bf hf h1
   have := Int.mul_le_mul_of_nonneg_right (show (CH y).num t <= g.hi * (CH y).w by omega) (Int.le_of_lt E.d)
   have e : r.n * (CH y).w = g.hi * (CH y).w * r.d := by rw [h2]; grind
   omega
  ·refine IS hf.1 E.d ?_
   rw [QP]
   show (CH y).num t * r.d <= r.n * (CH y).w
   have T := Two.of hc ha hb h1
   have hl := BVW T t hf (py a ha) (py b hb)
   have hw : 0 < (Jj a b t).w := (BGR T t).1.1
   refine Int.le_of_mul_le_mul_right (?_ : _ * (Jj a b t).w <= _ * (Jj a b t).w) hw
   have := Int.mul_le_mul_of_nonneg_right hl (Int.le_of_lt E.d)
   have e1 : r.n * (CH y).w * (Jj a b t).w = (Jj a b t).num t * (CH y).w * r.d := by
    have : r.n * (CH y).w * (Jj a b t).w = r.n * (Jj a b t).w * (CH y).w := by grind
    rw [this, h2]; grind
   have e2 : (CH y).num t * r.d * (Jj a b t).w = (CH y).num t * (Jj a b t).w * r.d := by grind
   omega
end Go.Bal

namespace Go.Bal
open Go Go.Sym Go.Proofs
def jU (s : List Gau) : Prop := ∀ i j, i <= j -> j < s.length -> (gD s i).st <= (gD s j).st
theorem CNX {s : List Gau} (ho : ∀ g ∈ s, DJ g) (ha : jU s) (h : ∀ i k m, i <= k -> k <= m -> m < s.length -> KX (gD s i) (gD s k) (gD s m) = true) : Can s := by
 have o : ∀ i, i < s.length -> (gD s i).lo <= (gD s i).hi := λ i hi => (ho _ (BM hi)).2.2.2.1
 have t : ∀ i k m, i <= k -> k <= m -> m < s.length -> ∃ f : Rl, f.ok /\ f.pass (gD s i) /\ f.pass (gD s k) /\ f.pass (gD s m) := λ i k m h1 h2 h3 =>
  (BNH (o i (by omega)) (o k (by omega)) (o m h3) (ha i k h1 (by omega)) (ha k m h2 h3)).1 (h i k m h1 h2 h3)
 obtain ⟨x, h1, h2, _⟩ := Z0 (s := s) (A := λ _ => True) (λ _ _ _ _ _ _ _ _ _ _ _ _ _ => trivial) (λ a b c ha hb hc => by
  obtain ⟨i, hi, rfl⟩ := HM ha
  obtain ⟨k, hk, rfl⟩ := HM hb
  obtain ⟨m, hm, rfl⟩ := HM hc
  rcases Nat.le_total i k with q1 | q1 <;> rcases Nat.le_total k m with q2 | q2 <;> rcases Nat.le_total i m with q3 | q3
  ·obtain ⟨f, f0, f1, f2, f3⟩ := t i k m q1 q2 hm; exact ⟨f, f0, f1, f2, f3⟩
  ·obtain ⟨f, f0, f1, f2, f3⟩ := t i k m q1 q2 hm; exact ⟨f, f0, f1, f2, f3⟩
  ·obtain ⟨f, f0, f1, f2, f3⟩ := t i m k q3 q2 hk; exact ⟨f, f0, f1, f3, f2⟩
  ·obtain ⟨f, f0, f1, f2, f3⟩ := t m i k q3 q1 hk; exact ⟨f, f0, f2, f3, f1⟩
  ·obtain ⟨f, f0, f1, f2, f3⟩ := t k i m q1 q3 hm; exact ⟨f, f0, f2, f1, f3⟩
  ·obtain ⟨f, f0, f1, f2, f3⟩ := t k m i q2 q3 hi; exact ⟨f, f0, f3, f1, f2⟩
  ·obtain ⟨f, f0, f1, f2, f3⟩ := t m k i q2 q1 hi; exact ⟨f, f0, f3, f2, f1⟩
  ·obtain ⟨f, f0, f1, f2, f3⟩ := t m k i q2 q1 hi; exact ⟨f, f0, f3, f2, f1⟩) (λ a b ha hb => by
  obtain ⟨i, hi, rfl⟩ := HM ha
  obtain ⟨k, hk, rfl⟩ := HM hb
  rcases Nat.le_total i k with q1 | q1
  ·obtain ⟨f, f0, f1, f2, f3⟩ := t i i k (Nat.le_refl _) q1 hk; exact ⟨f, f0, f1, f3, trivial⟩
  ·obtain ⟨f, f0, f1, f2, f3⟩ := t k k i (Nat.le_refl _) q1 hi; exact ⟨f, f0, f3, f1, trivial⟩) ⟨⟨0, 0, 1⟩, ⟨Int.one_pos, Int.le_refl _⟩, trivial⟩
 exact CSA ho h1 h2
theorem CSU {s : List Gau} (ho : ∀ g ∈ s, DJ g) (ha : jU s) {i k m : Nat} (h1 : i <= k) (h2 : k <= m) (h3 : m < s.length) (h : KX (gD s i) (gD s k) (gD s m) = false) : ¬Can s := λ ⟨x, x1, x2⟩ => by
 have o : ∀ i, i < s.length -> (gD s i).lo <= (gD s i).hi := λ i hi => (ho _ (BM hi)).2.2.2.1
 rw [(BNH (o i (by omega)) (o k (by omega)) (o m h3) (ha i k h1 (by omega)) (ha k m h2 h3)).2 ⟨CH x, BO x1, x2 _ (BM (by omega)), x2 _ (BM (by omega)), x2 _ (BM h3)⟩] at h
 cases h
def FV (x : Gau) (l : List Gau) : Nat -> Nat
 | 0 => 0
 | n + 1 => bif decide ((gD l n).st > x.st) then FV x l n else n + 1
def yN (l : List Gau) (x : Gau) : List Gau := l.take (FV x l l.length) ++ x :: l.drop (FV x l l.length)
def Jf (l : List Gau) : List Gau := l.foldl yN []
theorem BEQ (x : Gau) (l : List Gau) : ∀ n, FV x l n <= n
 | 0 => Nat.le_refl _
 | n + 1 => by
  unfold FV
  cases decide ((gD l n).st > x.st)
  ·exact Nat.le_refl _
  ·have := BEQ x l n; show FV x l n <= n + 1; omega
theorem BBZ (x : Gau) (l : List Gau) : ∀ n, (∀ i, FV x l n <= i -> i < n -> x.st < (gD l i).st) /\ (0 < FV x l n -> (gD l (FV x l n - 1)).st <= x.st)
 | 0 => ⟨λ i _ h => by omega, λ h => by have h : 0 < 0 := h; omega⟩
 | n + 1 => by
  unfold FV
  by_cases h : (gD l n).st > x.st
  ·rw [decide_eq_true h]
   obtain ⟨h1, h2⟩ := BBZ x l n
   refine ⟨λ i a b => ?_, h2⟩
   by_cases e : i = n
   ·rw [e]; exact h
   ·exact h1 i a (by omega)
  ·rw [decide_eq_false h]
   exact ⟨λ i a b => by have a : n + 1 <= i := a; omega, λ _ => by show (gD l (n + 1 - 1)).st <= _; rw [show n + 1 - 1 = n by omega]; omega⟩
theorem BCJ (l : List Gau) (x : Gau) : (yN l x).Perm (x :: l) := by
 unfold yN
 have := List.perm_middle (a := x) (l₁ := l.take (FV x l l.length)) (l₂ := l.drop (FV x l l.length))
 rw [List.take_append_drop] at this; exact this
theorem BAQ : ∀ (l a : List Gau), (l.foldl yN a).Perm (a ++ l)
 | [], a => by simp
 | x :: l, a => by
  refine (BAQ l (yN a x)).trans ?_
  refine ((BCJ a x).append_right l).trans ?_
  exact (List.perm_middle (a := x) (l₁ := a) (l₂ := l)).symm
theorem RP (l : List Gau) : (Jf l).Perm l := by have := BAQ l []; simpa [Jf] using this
theorem CBV (l : List Gau) (x : Gau) : (yN l x).length = l.length + 1 := (BCJ l x).length_eq
theorem BEK {l : List Gau} {x : Gau} {i : Nat} : gD (yN l x) i = if i < FV x l l.length then gD l i else if i = FV x l l.length then x else gD l (i - 1) := by
 have hp := BEQ x l l.length
 unfold yN
 rw [XI, List.length_take, Nat.min_eq_left hp]
 by_cases h1 : i < FV x l l.length
 ·rw [if_pos h1, if_pos h1]; simp [gD, List.getD_eq_getElem?_getD, List.getElem?_take, h1]
 ·rw [if_neg h1, if_neg h1]
  by_cases h2 : i = FV x l l.length
  ·rw [if_pos h2, h2, Nat.sub_self]; rfl
  ·rw [if_neg h2]
   obtain ⟨j, hj⟩ : ∃ j, i - FV x l l.length = j + 1 := ⟨i - FV x l l.length - 1, by omega⟩
   rw [hj]
   show gD (l.drop (FV x l l.length)) j = _
   simp only [gD, List.getD_eq_getElem?_getD, List.getElem?_drop]
   rw [show FV x l l.length + j = i - 1 by omega]
theorem CDQ {l : List Gau} {x : Gau} (h : jU l) : jU (yN l x) := λ i j hij hj => by
 rw [CBV] at hj
 have hp := BEQ x l l.length
 obtain ⟨s1, s2⟩ := BBZ x l l.length
 rw [BEK, BEK]
 by_cases a1 : i < FV x l l.length
 ·rw [if_pos a1]
  by_cases b1 : j < FV x l l.length
  ·rw [if_pos b1]; exact h i j hij (by omega)
  ·rw [if_neg b1]
   have h3 := h i (FV x l l.length - 1) (by omega) (by omega)
   have h4 := s2 (by omega)
   by_cases b2 : j = FV x l l.length
   ·rw [if_pos b2]; omega
   ·rw [if_neg b2]
    have := s1 (j - 1) (by omega) (by omega); omega
 ·rw [if_neg a1, if_neg (show ¬j < FV x l l.length by omega)]
  by_cases a2 : i = FV x l l.length
  ·rw [if_pos a2]
   by_cases b2 : j = FV x l l.length
   ·rw [if_pos b2]; exact Int.le_refl _
   ·rw [if_neg b2]
    have := s1 (j - 1) (by omega) (by omega); omega
  ·rw [if_neg a2, if_neg (show ¬j = FV x l l.length by omega)]
   exact h (i - 1) (j - 1) (by omega) (by omega)
theorem BBP : ∀ (l a : List Gau), jU a -> jU (l.foldl yN a)
 | [], a, h => h
 | x :: l, a, h => BBP l (yN a x) (CDQ h)
theorem CAI (l : List Gau) : jU (Jf l) := BBP l [] λ i j _ h => by have h : j < 0 := h; omega
theorem CBO (l : List Gau) : Can (Jf l) ↔ Can l := ⟨λ h => h.mono λ g hg => (RP l).mem_iff.2 hg, λ h => h.mono λ g hg => (RP l).mem_iff.1 hg⟩
end Go.Bal
