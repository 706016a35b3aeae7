/- Package rating: what the reference finds for flows (no program in sight). -/
import Derived.Test.YtoihhodbkimedaaGreatRZ5
set_option linter.unusedVariables false
set_option linter.unusedSimpArgs false
namespace Go.Bal
open Go Go.Sym Go.Proofs
def HV (s : List Gau) : Bool := (BG s).2
theorem ZU {s : List Gau} (hs : ∀ g ∈ s, DJ g) : HV s = true ↔ Can s := (AJL hs).1
theorem CDT {s : List Gau} (ho : ∀ g ∈ s, DJ g) (ha : jU s) {i k m : Nat} (h1 : i <= k) (h2 : k <= m) (h3 : m < s.length) (h : KX (gD s i) (gD s k) (gD s m) = false) : HV s = false := by
 cases hp : HV s with
 | false => rfl
 | true => exact absurd ((ZU ho).1 hp) (CSU ho ha h1 h2 h3 h)
def BUN (s : List Gau) (i k m : Nat) : Prop := ∀ a b c, a <= b -> b <= c -> c < s.length -> (a < i ∨ a = i /\ (b < k ∨ b = k /\ c < m)) -> KX (gD s a) (gD s b) (gD s c) = true
theorem BZA {s : List Gau} (ho : ∀ g ∈ s, DJ g) (ha : jU s) (h : BUN s s.length 0 0) : HV s = true := (ZU ho).2 (CNX ho ha λ i k m h1 h2 h3 => h i k m h1 h2 h3 (.inl (by omega)))
structure MaxR (S Q : Rt -> Prop) (r : Rt) : Prop where
 low : sR r
 b : 0 <= r.n /\ r.n <= 1000000000 /\ r.d <= 2000
 all : ∀ x, S x -> 0 < x.d /\ HC x r
 is : r = ⟨0, 1⟩ ∨ ∃ x, Q x /\ 0 < x.d /\ r.n * x.d = x.n * r.d
structure MinR (S Q : Rt -> Prop) (r : Rt) : Prop where
 low : sR r
 b : -1000000000 <= r.n /\ r.n <= 200000 * r.d /\ r.d <= 2000
 all : ∀ x, S x -> 0 < x.d /\ HC r x
 is : r = ⟨200000, 1⟩ ∨ ∃ x, Q x /\ 0 < x.d /\ r.n * x.d = x.n * r.d
structure Frc (x v : Rt) : Prop where
 low : sR v
 d : 0 < x.d
 e : v.n * x.d = x.n * v.d
 b : -1000000000 <= v.n /\ v.n <= 1000000000 /\ v.d <= 2000
theorem BUS {a d : Int} (h1 : -1000000000 <= a /\ a <= 1000000000) (h2 : 0 < d /\ d <= 2000) : -2000000000000 <= a * d /\ a * d <= 2000000000000 := by
 constructor
 ·have e1 := Int.mul_le_mul_of_nonneg_right h1.1 (show 0 <= d by omega)
  omega
 ·have e1 := Int.mul_le_mul_of_nonneg_right h1.2 (show 0 <= d by omega)
  omega
theorem BKA {a b : Rt} (ha : -1000000000 <= a.n /\ a.n <= 1000000000) (hb : -1000000000 <= b.n /\ b.n <= 1000000000) (da : 0 < a.d /\ a.d <= 2000) (db : 0 < b.d /\ b.d <= 2000) : decide (wr (a.n * b.d) < wr (b.n * a.d)) = decide (a.n * b.d < b.n * a.d) := by
 have e1 := BUS ha db
 have e2 := BUS hb da
 rw [show wr (a.n * b.d) = a.n * b.d from EV (by omega) (by omega), show wr (b.n * a.d) = b.n * a.d from EV (by omega) (by omega)]
theorem BTN {x v r : Rt} (hx : 0 < x.d) (hv : 0 < v.d) (e : v.n * x.d = x.n * v.d) : HC v r ↔ HC x r := by
 unfold HC
 constructor
 ·intro h
  refine Int.le_of_mul_le_mul_right (?_ : _ * v.d <= _ * v.d) hv
  have := Int.mul_le_mul_of_nonneg_right h (Int.le_of_lt hx)
  have e1 : x.n * r.d * v.d = v.n * r.d * x.d := by
   have : x.n * r.d * v.d = x.n * v.d * r.d := by grind
   rw [this, <- e]; grind
  have e2 : r.n * x.d * v.d = r.n * v.d * x.d := by grind
  omega
 ·intro h
  refine Int.le_of_mul_le_mul_right (?_ : _ * x.d <= _ * x.d) hx
  have := Int.mul_le_mul_of_nonneg_right h (Int.le_of_lt hv)
  have e1 : v.n * r.d * x.d = x.n * r.d * v.d := by
   have : v.n * r.d * x.d = v.n * x.d * r.d := by grind
   rw [this, e]; grind
  have e2 : r.n * v.d * x.d = r.n * x.d * v.d := by grind
  omega
theorem BMH {x v r : Rt} (hx : 0 < x.d) (hv : 0 < v.d) (e : v.n * x.d = x.n * v.d) : HC r v ↔ HC r x := by
 unfold HC
 constructor
 ·intro h
  refine Int.le_of_mul_le_mul_right (?_ : _ * v.d <= _ * v.d) hv
  have := Int.mul_le_mul_of_nonneg_right h (Int.le_of_lt hx)
  have e1 : x.n * r.d * v.d = v.n * r.d * x.d := by
   have : x.n * r.d * v.d = x.n * v.d * r.d := by grind
   rw [this, <- e]; grind
  have e2 : r.n * x.d * v.d = r.n * v.d * x.d := by grind
  omega
 ·intro h
  refine Int.le_of_mul_le_mul_right (?_ : _ * x.d <= _ * x.d) hx
  have := Int.mul_le_mul_of_nonneg_right h (Int.le_of_lt hv)
  have e1 : v.n * r.d * x.d = x.n * r.d * v.d := by
   have : v.n * r.d * x.d = v.n * x.d * r.d := by grind
   rw [this, e]; grind
  have e2 : r.n * v.d * x.d = r.n * x.d * v.d := by grind
  omega
theorem MaxR.weak {S T Q : Rt -> Prop} {r : Rt} (h : MaxR S Q r) (hs : ∀ x, T x -> S x) : MaxR T Q r := ⟨h.low, h.b, λ x hx => h.all x (hs x hx), h.is⟩
theorem MinR.weak {S T Q : Rt -> Prop} {r : Rt} (h : MinR S Q r) (hs : ∀ x, T x -> S x) : MinR T Q r := ⟨h.low, h.b, λ x hx => h.all x (hs x hx), h.is⟩
theorem MaxR.take {S Q : Rt -> Prop} {r x v : Rt} (h : MaxR S Q r) (hv : Frc x v) (hq : Q x) (hb : decide (wr (r.n * v.d) < wr (v.n * r.d)) = true) : MaxR (λ y => S y ∨ y = x) Q v := by
 have h0 := h.low.1
 have v0 := hv.low.1
 obtain ⟨b1, b2, b3⟩ := h.b
 obtain ⟨c1, c2, c3⟩ := hv.b
 rw [BKA (by omega) (by omega) (by omega) (by omega), decide_eq_true_eq] at hb
 have hp : 0 <= v.n := by
  have : 0 <= r.n * v.d := Int.mul_nonneg b1 (by omega)
  have : 0 < v.n * r.d := by omega
  exact Classical.byContradiction λ hc => by
   have := Int.mul_le_mul_of_nonneg_right (show v.n <= 0 by omega) (show 0 <= r.d by omega)
   omega
 refine ⟨hv.low, ⟨hp, c2, c3⟩, λ y hy => ?_, .inr ⟨x, hq, hv.d, hv.e⟩⟩
 rcases hy with hy | rfl
 ·obtain ⟨y1, y2⟩ := h.all y hy
  exact ⟨y1, CQ (Int.le_of_lt y1) h0 (Int.le_of_lt v0) y2 (Int.le_of_lt hb)⟩
 ·exact ⟨hv.d, (BTN hv.d v0 hv.e).1 (wD v)⟩
theorem MaxR.keep {S Q : Rt -> Prop} {r x v : Rt} (h : MaxR S Q r) (hv : Frc x v) (hb : decide (wr (r.n * v.d) < wr (v.n * r.d)) = false) : MaxR (λ y => S y ∨ y = x) Q r := by
 have h0 := h.low.1
 have v0 := hv.low.1
 obtain ⟨b1, b2, b3⟩ := h.b
 obtain ⟨c1, c2, c3⟩ := hv.b
 rw [BKA (by omega) (by omega) (by omega) (by omega), decide_eq_false_iff_not] at hb
 refine ⟨h.low, h.b, λ y hy => ?_, h.is⟩
 rcases hy with hy | rfl
 ·exact h.all y hy
 ·exact ⟨hv.d, (BTN hv.d v0 hv.e).1 (Int.not_lt.1 hb)⟩
theorem MinR.take {S Q : Rt -> Prop} {r x v : Rt} (h : MinR S Q r) (hv : Frc x v) (hq : Q x) (hb : decide (wr (v.n * r.d) < wr (r.n * v.d)) = true) : MinR (λ y => S y ∨ y = x) Q v := by
 have h0 := h.low.1
 have v0 := hv.low.1
 obtain ⟨b1, b2, b3⟩ := h.b
 obtain ⟨c1, c2, c3⟩ := hv.b
 rw [BKA (by omega) (by omega) (by omega) (by omega), decide_eq_true_eq] at hb
 have hp : v.n <= 200000 * v.d := by
  have e1 := Int.mul_le_mul_of_nonneg_right b2 (Int.le_of_lt v0)
  have e2 : 200000 * r.d * v.d = 200000 * v.d * r.d := by grind
  exact Int.le_of_mul_le_mul_right (show v.n * r.d <= 200000 * v.d * r.d by omega) h0
 refine ⟨hv.low, ⟨c1, hp, c3⟩, λ y hy => ?_, .inr ⟨x, hq, hv.d, hv.e⟩⟩
 rcases hy with hy | rfl
 ·obtain ⟨y1, y2⟩ := h.all y hy
  exact ⟨y1, CQ (Int.le_of_lt v0) h0 (Int.le_of_lt y1) (Int.le_of_lt hb) y2⟩
 ·exact ⟨hv.d, (BMH hv.d v0 hv.e).1 (wD v)⟩
theorem MinR.keep {S Q : Rt -> Prop} {r x v : Rt} (h : MinR S Q r) (hv : Frc x v) (hb : decide (wr (v.n * r.d) < wr (r.n * v.d)) = false) : MinR (λ y => S y ∨ y = x) Q r := by
 have h0 := h.low.1
 have v0 := hv.low.1
 obtain ⟨b1, b2, b3⟩ := h.b
 obtain ⟨c1, c2, c3⟩ := hv.b
 rw [BKA (by omega) (by omega) (by omega) (by omega), decide_eq_false_iff_not] at hb
 refine ⟨h.low, h.b, λ y hy => ?_, h.is⟩
 rcases hy with hy | rfl
 ·exact h.all y hy
 ·exact ⟨hv.d, (BMH hv.d v0 hv.e).1 (Int.not_lt.1 hb)⟩
def oneA (i k j : Nat) : Prop := j < i ∨ j = i /\ i < k
def twoA (i k j m : Nat) : Prop := j < m /\ (j < i ∨ j = i /\ m < k)
def loO (s : List Gau) (t : Int) (i k : Nat) (x : Rt) : Prop := (∃ j, j < s.length /\ oneA i k j /\ (gD s j).st <= t /\ x = ⟨(gD s j).lo, 1⟩) ∨ ∃ j m, m < s.length /\ twoA i k j m /\ (gD s j).st < (gD s m).st /\ x = ⟨(Ji (gD s j) (gD s m) t).num t, (Ji (gD s j) (gD s m) t).w⟩
def hiO (s : List Gau) (t : Int) (i k : Nat) (x : Rt) : Prop := (∃ j, j < s.length /\ oneA i k j /\ t <= (gD s j).st /\ x = ⟨(gD s j).hi, 1⟩) ∨ ∃ j m, m < s.length /\ twoA i k j m /\ (gD s j).st < (gD s m).st /\ x = ⟨(Jj (gD s j) (gD s m) t).num t, (Jj (gD s j) (gD s m) t).w⟩
def loQ (s : List Gau) (t : Int) (x : Rt) : Prop := (∃ g ∈ s, g.st <= t /\ x = ⟨g.lo, 1⟩) ∨ ∃ a ∈ s, ∃ b ∈ s, a.st < b.st /\ x = ⟨(Ji a b t).num t, (Ji a b t).w⟩
def hiQ (s : List Gau) (t : Int) (x : Rt) : Prop := (∃ g ∈ s, t <= g.st /\ x = ⟨g.hi, 1⟩) ∨ ∃ a ∈ s, ∃ b ∈ s, a.st < b.st /\ x = ⟨(Jj a b t).num t, (Jj a b t).w⟩
def flI (s : List Gau) (t : Int) (i k : Nat) (lo hi : Rt) : Prop := MaxR (loO s t i k) (loQ s t) lo /\ MinR (hiO s t i k) (hiQ s t) hi
theorem pN (n : Int) : sR ⟨n, 1⟩ := ⟨Int.one_pos, by show Nat.gcd n.natAbs 1 = 1; exact Nat.gcd_one_right _⟩
theorem CVN (s : List Gau) (t : Int) : flI s t 0 0 ⟨0, 1⟩ ⟨200000, 1⟩ := by
 refine ⟨⟨pN 0, ⟨Int.le_refl _, by show (0 : Int) <= 1000000000; omega, by show (1 : Int) <= 2000; omega⟩, λ x hx => ?_, .inl rfl⟩, ⟨pN _, ⟨by show (-1000000000 : Int) <= 200000; omega, by show (200000 : Int) <= 200000 * 1; omega, by show (1 : Int) <= 2000; omega⟩, λ x hx => ?_, .inl rfl⟩⟩
 ·rcases hx with ⟨j, _, h, _⟩ | ⟨j, m, _, h, _⟩
  ·unfold oneA at h; omega
  ·unfold twoA at h; omega
 ·rcases hx with ⟨j, _, h, _⟩ | ⟨j, m, _, h, _⟩
  ·unfold oneA at h; omega
  ·unfold twoA at h; omega
theorem CGN {s : List Gau} {t : Int} {i : Nat} {lo hi : Rt} (h : flI s t i s.length lo hi) : flI s t (i + 1) 0 lo hi := by
 refine ⟨h.1.weak λ x hx => ?_, h.2.weak λ x hx => ?_⟩
 ·rcases hx with ⟨j, j1, j2, j3⟩ | ⟨j, m, j1, j2, j3⟩
  ·exact .inl ⟨j, j1, by unfold oneA at *; omega, j3⟩
  ·exact .inr ⟨j, m, j1, by unfold twoA at *; omega, j3⟩
 ·rcases hx with ⟨j, j1, j2, j3⟩ | ⟨j, m, j1, j2, j3⟩
  ·exact .inl ⟨j, j1, by unfold oneA at *; omega, j3⟩
  ·exact .inr ⟨j, m, j1, by unfold twoA at *; omega, j3⟩
theorem BUG {n : Int} (h : 0 <= n /\ n <= 200000) : Frc ⟨n, 1⟩ ⟨n, 1⟩ := ⟨pN n, Int.one_pos, rfl, by show (-1000000000 : Int) <= n; omega, by show n <= (1000000000 : Int); omega, by show (1 : Int) <= 2000; omega⟩
theorem CFC {a v b w t : Int} (h : a < b) (h1 : 0 <= a) (h2 : b <= 2000) (hv : 0 <= v /\ v <= 200000) (hw : 0 <= w /\ w <= 200000) (ht : 0 <= t /\ t <= 2000) : Frc ⟨(pt2 a v b w).num t, (pt2 a v b w).w⟩ (FD (v * (b - t) + w * (t - a)) (b - a)) /\ -1000000000 <= v * (b - t) + w * (t - a) /\ v * (b - t) + w * (t - a) <= 1000000000 := by
 have hb : ∀ {v x : Int}, 0 <= v /\ v <= 200000 -> -2000 <= x /\ x <= 2000 -> -400000000 <= v * x /\ v * x <= 400000000 := λ {v x} h1 h2 => by
  have e1 := Int.mul_le_mul_of_nonneg_left h2.1 h1.1
  have e2 := Int.mul_le_mul_of_nonneg_left h2.2 h1.1
  omega
 have q1 := hb hv (x := b - t) (by omega)
 have q2 := hb hw (x := t - a) (by omega)
 have hd := iE (n := v * (b - t) + w * (t - a)) (d := b - a) (by omega)
 have hn := BQG (n := v * (b - t) + w * (t - a)) (d := b - a)
 have hx := WS (n := v * (b - t) + w * (t - a)) (d := b - a) (by omega)
 refine ⟨⟨BWL (by omega), by show 0 < b - a; omega, ?_, by omega, by omega, by omega⟩, by omega, by omega⟩
 rw [QT]; exact hx
theorem BTJ {s : List Gau} {t : Int} {i : Nat} {x : Rt} (h : loO s t i (i + 1) x) : loO s t i 0 x ∨ (gD s i).st <= t /\ x = ⟨(gD s i).lo, 1⟩ := by
 rcases h with ⟨j, j1, j2, j3, j4⟩ | ⟨j, m, j1, j2, j3⟩
 ·by_cases e : j = i
  ·subst e; exact .inr ⟨j3, j4⟩
  ·exact .inl (.inl ⟨j, j1, by unfold oneA at *; omega, j3, j4⟩)
 ·exact .inl (.inr ⟨j, m, j1, by unfold twoA at *; omega, j3⟩)
theorem BWV {s : List Gau} {t : Int} {i : Nat} {x : Rt} (h : hiO s t i (i + 1) x) : hiO s t i 0 x ∨ t <= (gD s i).st /\ x = ⟨(gD s i).hi, 1⟩ := by
 rcases h with ⟨j, j1, j2, j3, j4⟩ | ⟨j, m, j1, j2, j3⟩
 ·by_cases e : j = i
  ·subst e; exact .inr ⟨j3, j4⟩
  ·exact .inl (.inl ⟨j, j1, by unfold oneA at *; omega, j3, j4⟩)
 ·exact .inl (.inr ⟨j, m, j1, by unfold twoA at *; omega, j3⟩)
theorem BWT {s : List Gau} {t : Int} {i k : Nat} {x : Rt} (hk : i < k) (h : loO s t i (k + 1) x) : loO s t i k x ∨ (gD s i).st < (gD s k).st /\ x = ⟨(Ji (gD s i) (gD s k) t).num t, (Ji (gD s i) (gD s k) t).w⟩ := by
 rcases h with ⟨j, j1, j2, j3, j4⟩ | ⟨j, m, j1, j2, j3, j4⟩
 ·exact .inl (.inl ⟨j, j1, by unfold oneA at *; omega, j3, j4⟩)
 ·by_cases e : j = i /\ m = k
  ·obtain ⟨rfl, rfl⟩ := e; exact .inr ⟨j3, j4⟩
  ·exact .inl (.inr ⟨j, m, j1, by unfold twoA at *; omega, j3, j4⟩)
theorem BVG {s : List Gau} {t : Int} {i k : Nat} {x : Rt} (hk : i < k) (h : hiO s t i (k + 1) x) : hiO s t i k x ∨ (gD s i).st < (gD s k).st /\ x = ⟨(Jj (gD s i) (gD s k) t).num t, (Jj (gD s i) (gD s k) t).w⟩ := by
 rcases h with ⟨j, j1, j2, j3, j4⟩ | ⟨j, m, j1, j2, j3, j4⟩
 ·exact .inl (.inl ⟨j, j1, by unfold oneA at *; omega, j3, j4⟩)
 ·by_cases e : j = i /\ m = k
  ·obtain ⟨rfl, rfl⟩ := e; exact .inr ⟨j3, j4⟩
  ·exact .inl (.inr ⟨j, m, j1, by unfold twoA at *; omega, j3, j4⟩)
def PI (a b : Rt) : Bool := decide (wr (a.n * b.d) < wr (b.n * a.d))
theorem CRG {s : List Gau} {t : Int} {i : Nat} {r : Rt} (ho : ∀ g ∈ s, DJ g) (hi : i < s.length) (h : MaxR (loO s t i 0) (loQ s t) r) : MaxR (loO s t i (i + 1)) (loQ s t) (bif (bif decide ((gD s i).st <= t) then PI r ⟨(gD s i).lo, 1⟩ else false) then ⟨(gD s i).lo, 1⟩ else r) := by
 have hm := BM (l := s) hi
 obtain ⟨o1, o2, o3, o4, o5⟩ := ho _ hm
 have hf := BUG (n := (gD s i).lo) (by omega)
 by_cases c : (gD s i).st <= t
 ·rw [decide_eq_true c]
  have hw : ∀ x, loO s t i (i + 1) x -> loO s t i 0 x ∨ x = ⟨(gD s i).lo, 1⟩ := λ x hx => (BTJ hx).imp id λ q => q.2
  cases hb : PI r ⟨(gD s i).lo, 1⟩ with
  | true => exact (h.take hf (.inl ⟨_, hm, c, rfl⟩) hb).weak hw
  | false => exact (h.keep hf hb).weak hw
 ·rw [decide_eq_false c]
  exact h.weak λ x hx => (BTJ hx).resolve_right λ q => c q.1
theorem CSJ {s : List Gau} {t : Int} {i : Nat} {r : Rt} (ho : ∀ g ∈ s, DJ g) (hi : i < s.length) (h : MinR (hiO s t i 0) (hiQ s t) r) : MinR (hiO s t i (i + 1)) (hiQ s t) (bif (bif decide ((gD s i).st >= t) then PI ⟨(gD s i).hi, 1⟩ r else false) then ⟨(gD s i).hi, 1⟩ else r) := by
 have hm := BM (l := s) hi
 obtain ⟨o1, o2, o3, o4, o5⟩ := ho _ hm
 have hf := BUG (n := (gD s i).hi) (by omega)
 by_cases c : t <= (gD s i).st
 ·rw [decide_eq_true (show (gD s i).st >= t from c)]
  have hw : ∀ x, hiO s t i (i + 1) x -> hiO s t i 0 x ∨ x = ⟨(gD s i).hi, 1⟩ := λ x hx => (BWV hx).imp id λ q => q.2
  cases hb : PI ⟨(gD s i).hi, 1⟩ r with
  | true => exact (h.take hf (.inl ⟨_, hm, c, rfl⟩) hb).weak hw
  | false => exact (h.keep hf hb).weak hw
 ·rw [decide_eq_false (show ¬(gD s i).st >= t from c)]
  exact h.weak λ x hx => (BWV hx).resolve_right λ q => c q.1
def WE (a b : Gau) (t : Int) : Rt := FD (loV a b t * (b.st - t) + loW a b t * (t - a.st)) (b.st - a.st)
def WH (a b : Gau) (t : Int) : Rt := FD (hiV a b t * (b.st - t) + hiW a b t * (t - a.st)) (b.st - a.st)
theorem v_in {a b : Gau} (ha : DJ a) (hb : DJ b) (t : Int) : (0 <= loV a b t /\ loV a b t <= 200000) /\ (0 <= loW a b t /\ loW a b t <= 200000) /\ (0 <= hiV a b t /\ hiV a b t <= 200000) /\ 0 <= hiW a b t /\ hiW a b t <= 200000 := by
 obtain ⟨o1, o2, o3, o4, o5⟩ := ha
 obtain ⟨q1, q2, q3, q4, q5⟩ := hb
 unfold loV loW hiV hiW
 by_cases c1 : b.st <= t
 ·simp only [if_pos c1]; omega
 ·by_cases c2 : t <= a.st
  ·simp only [if_neg c1, if_pos c2]; omega
  ·simp only [if_neg c1, if_neg c2]; omega
theorem CFE {a b : Gau} {t : Int} (ha : DJ a) (hb : DJ b) (h : a.st < b.st) (ht : 0 <= t /\ t <= 2000) : Frc ⟨(Ji a b t).num t, (Ji a b t).w⟩ (WE a b t) /\ Frc ⟨(Jj a b t).num t, (Jj a b t).w⟩ (WH a b t) := by
 obtain ⟨v1, v2, v3, v4⟩ := v_in ha hb t
 exact ⟨(CFC h ha.1 hb.2.1 v1 v2 ht).1, (CFC h ha.1 hb.2.1 v3 v4 ht).1⟩
theorem CEW {s : List Gau} {t : Int} {i k : Nat} {lo hi : Rt} (hk : i < k) (e : (gD s k).st = (gD s i).st) (h : flI s t i k lo hi) : flI s t i (k + 1) lo hi :=
 ⟨h.1.weak λ x hx => (BWT hk hx).resolve_right λ q => by omega, h.2.weak λ x hx => (BVG hk hx).resolve_right λ q => by omega⟩
theorem CTU {s : List Gau} {t : Int} {i k : Nat} {r : Rt} (ho : ∀ g ∈ s, DJ g) (ht : 0 <= t /\ t <= 2000) (hik : i < k) (hk : k < s.length) (hl : (gD s i).st < (gD s k).st) (h : MaxR (loO s t i k) (loQ s t) r) : MaxR (loO s t i (k + 1)) (loQ s t) (bif PI r (WE (gD s i) (gD s k) t) then WE (gD s i) (gD s k) t else r) := by
 have hm := BM (l := s) (show i < s.length by omega)
 have hn := BM (l := s) hk
 have hf := (CFE (ho _ hm) (ho _ hn) hl ht).1
 have hw : ∀ x, loO s t i (k + 1) x -> loO s t i k x ∨ x = ⟨(Ji (gD s i) (gD s k) t).num t, (Ji (gD s i) (gD s k) t).w⟩ := λ x hx => (BWT hik hx).imp id λ q => q.2
 cases hb : PI r (WE (gD s i) (gD s k) t) with
 | true => exact (h.take hf (.inr ⟨_, hm, _, hn, hl, rfl⟩) hb).weak hw
 | false => exact (h.keep hf hb).weak hw
theorem CRC {s : List Gau} {t : Int} {i k : Nat} {r : Rt} (ho : ∀ g ∈ s, DJ g) (ht : 0 <= t /\ t <= 2000) (hik : i < k) (hk : k < s.length) (hl : (gD s i).st < (gD s k).st) (h : MinR (hiO s t i k) (hiQ s t) r) : MinR (hiO s t i (k + 1)) (hiQ s t) (bif PI (WH (gD s i) (gD s k) t) r then WH (gD s i) (gD s k) t else r) := by
 have hm := BM (l := s) (show i < s.length by omega)
 have hn := BM (l := s) hk
 have hf := (CFE (ho _ hm) (ho _ hn) hl ht).2
 have hw : ∀ x, hiO s t i (k + 1) x -> hiO s t i k x ∨ x = ⟨(Jj (gD s i) (gD s k) t).num t, (Jj (gD s i) (gD s k) t).w⟩ := λ x hx => (BVG hik hx).imp id λ q => q.2
 cases hb : PI (WH (gD s i) (gD s k) t) r with
 | true => exact (h.take hf (.inr ⟨_, hm, _, hn, hl, rfl⟩) hb).weak hw
 | false => exact (h.keep hf hb).weak hw
theorem CAE (r : Rt) (t : Int) : BS (Nh r) t = CT r := by
 unfold BS CT; rw [QP]; rfl
theorem BBU {r : Rt} (h : sR r) : sR (CT r) := by
 unfold CT; split
 ·exact pN 0
 ·split
  ·exact pN _
  ·exact h
theorem CTX {s : List Gau} {t : Int} {lo hi : Rt} (ho : ∀ g ∈ s, DJ g) (ha : jU s) (ht : 0 <= t /\ t <= 2000) (hc : Can s) (h : flI s t s.length 0 lo hi) : Bnd.mk (CT lo) (CT hi) = FU s t := by
 obtain ⟨h1, h2⟩ := h
 have lt : ∀ {j m : Nat}, j < s.length -> m < s.length -> (gD s j).st < (gD s m).st -> j < m := λ {j m} hj hm q => Classical.byContradiction λ hc => by
  have := ha m j (by omega) hj; omega
 have E1 : LoE s t lo := by
  refine ⟨h1.low.1, h1.b.1, λ g hg hst => ?_, λ a h3 b h4 hst => ?_, ?_⟩
  ·obtain ⟨j, hj, rfl⟩ := HM hg
   have := (h1.all _ (.inl ⟨j, hj, .inl hj, hst, rfl⟩)).2
   unfold HC at this; simpa using this
  ·obtain ⟨j, hj, rfl⟩ := HM h3
   obtain ⟨m, hm, rfl⟩ := HM h4
   exact (h1.all _ (.inr ⟨j, m, hm, ⟨lt hj hm hst, .inl hj⟩, hst, rfl⟩)).2
  ·rcases h1.is with e | ⟨x, hq, _, e⟩
   ·rw [e]; exact .inl rfl
   ·rcases hq with ⟨g, hg, hst, rfl⟩ | ⟨a, h3, b, h4, hst, rfl⟩
    ·exact .inr (.inl ⟨g, hg, hst, by simpa using e.symm⟩)
    ·exact .inr (.inr ⟨a, h3, b, h4, hst, e.symm⟩)
 have E2 : HiE s t hi := by
  refine ⟨h2.low.1, h2.b.2.1, λ g hg hst => ?_, λ a h3 b h4 hst => ?_, ?_⟩
  ·obtain ⟨j, hj, rfl⟩ := HM hg
   have := (h2.all _ (.inl ⟨j, hj, .inl hj, hst, rfl⟩)).2
   unfold HC at this; simpa using this
  ·obtain ⟨j, hj, rfl⟩ := HM h3
   obtain ⟨m, hm, rfl⟩ := HM h4
   exact (h2.all _ (.inr ⟨j, m, hm, ⟨lt hj hm hst, .inl hj⟩, hst, rfl⟩)).2
  ·rcases h2.is with e | ⟨x, hq, _, e⟩
   ·rw [e]; exact .inl rfl
   ·rcases hq with ⟨g, hg, hst, rfl⟩ | ⟨a, h3, b, h4, hst, rfl⟩
    ·exact .inr (.inl ⟨g, hg, hst, by simpa using e⟩)
    ·exact .inr (.inr ⟨a, h3, b, h4, hst, e⟩)
 obtain ⟨x0, hx0, px0⟩ := hc
 have hne : CR s t ≠ [] := Ge ho ht (BO hx0) px0
 have hc : Can s := ⟨x0, hx0, px0⟩
 obtain ⟨w1, w2⟩ := BDD ho hne
 obtain ⟨a1, a2⟩ := CUJ ho ht hc E1
 obtain ⟨b1, b2⟩ := CTW ho ht hc E2
 rw [CAE] at a1 a2 b1 b2
 exact CFW (BDV (BBU h1.low) w1 a2 a1) (BDV (BBU h2.low) w2 b1 b2)
theorem rS {s : List Gau} {t : Int} (hs : ∀ g ∈ s, DJ g) (ht : 0 <= t /\ t <= 2000) : CR s t ≠ [] ↔ Can s := by
 constructor
 ·intro h
  obtain ⟨⟨y, y1, y2, _⟩, _⟩ := IC hs h
  exact ⟨y, y1, y2⟩
 ·rintro ⟨x, h1, h2⟩
  exact Ge hs ht (BO h1) h2
theorem BGF {s u : List Gau} {t : Int} (hs : ∀ g ∈ s, DJ g) (hm : ∀ x, x ∈ u ↔ x ∈ s) (ht : 0 <= t /\ t <= 2000) (hne : CR s t ≠ []) : FU u t = FU s t :=
 (CFG hs (λ x hx => hs x ((hm x).1 hx)) ht ht (λ f hf hp => ⟨f, hf, λ y hy => hp y ((hm y).1 hy), rfl, rfl⟩) (λ f hf hp => ⟨f, hf, λ y hy => hp y ((hm y).2 hy), rfl, rfl⟩) hne).2
def DP (l : List Gau) (b : List Int) (k : Int) : List Gau := Jf (BE l b k)
theorem Pr {l : List Gau} {b : List Int} {k : Int} {x : Gau} : x ∈ DP l b k ↔ x ∈ BE l b k := (RP _).mem_iff
theorem Rk {l : List Gau} {b : List Int} {k : Int} (ho : ∀ g ∈ l, DJ g) : ∀ g ∈ DP l b k, DJ g := λ g hg => JS ho g (Pr.1 hg)
theorem As (l : List Gau) (b : List Int) (k : Int) : jU (DP l b k) := CAI _
theorem BNN (l : List Gau) (b : List Int) (k : Int) : Can (DP l b k) ↔ Can (BE l b k) := CBO _
theorem RJ {l : List Gau} {b : List Int} {k : Int} (ho : ∀ g ∈ l, DJ g) : HV (DP l b k) = true ↔ Can (BE l b k) := (ZU (Rk ho)).trans (BNN l b k)
theorem Oc (l : List Gau) (b : List Int) (k : Int) : (DP l b k).length <= l.length := by
 unfold DP BE KY AP
 rw [(RP _).length_eq]; exact List.length_filter_le _ _
theorem UG {a : GB} (h : AH a = 0) : ∀ g ∈ a.g, DJ g := (HP h).2.1
theorem CDG {a : GBt} (h : AH (GA a) = 0) (hT : inT a = true) : (HV (DP a.g a.b (ET a.b a.t)) = true -> BD a = 0 /\ AU a = FU (DP a.g a.b (ET a.b a.t)) a.t) /\ (HV (DP a.g a.b (ET a.b a.t)) = false -> BD a = 6) := by
 have ho : ∀ g ∈ a.g, DJ g := UG h
 have ho' : ∀ g ∈ BE a.g a.b (ET a.b a.t), DJ g := JS ho
 have ht : 0 <= a.t /\ a.t <= 2000 := by unfold inT BY at hT; simpa using hT
 have ec : ∀ c : Bool, decide ((lB (bkT a)).length = 0) = c -> BD a = bif c then 6 else 0 := λ c hc => by unfold BD; rw [h, hT, hc]; rfl
 refine ⟨λ hp => ?_, λ hp => ?_⟩
 ·have hne := (rS ho' ht).2 ((RJ ho).1 hp)
  have e := ec false (decide_eq_false λ hc => hne (List.eq_nil_of_length_eq_zero hc))
  refine ⟨e, ?_⟩
  rw [BGF ho' (λ x => Pr) ht hne]
  unfold AU; rw [e]; rfl
 ·refine ec true (decide_eq_true ?_)
  have hn : ¬Can (BE a.g a.b (ET a.b a.t)) := λ hc => by rw [(RJ ho).2 hc] at hp; cases hp
  have : CR (BE a.g a.b (ET a.b a.t)) a.t = [] := Classical.byContradiction λ hc => hn ((rS ho' ht).1 hc)
  show (CR (BE a.g a.b (ET a.b a.t)) a.t).length = 0
  rw [this]; rfl
end Go.Bal
