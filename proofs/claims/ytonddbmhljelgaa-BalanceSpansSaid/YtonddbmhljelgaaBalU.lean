/- The statements' kit: Same, Copy; nets copied. Printed by genkit.py. -/
import Derived.Test.YtonddbmhljelgaaBalS
set_option linter.unusedVariables false
set_option linter.unusedSimpArgs false
namespace Go.Bal
open Go Go.Sym Go.Proofs
theorem Bb {α : Type} [Inhabited α] [DecidableEq α] {a b : List α} (h : a.length = b.length) {k : Nat} (hk : a.length <= k) (he : ∀ i, i < k -> gD a i = gD b i) : a = b := JX h λ i hi => he i (by omega)
theorem Jw {α : Type} [Inhabited α] [DecidableEq α] {a b : List α} {k : Nat} (he : gD a k ≠ gD b k) : ¬ a = b := λ h => he (by rw [h])
theorem Ei {α : Type} [DecidableEq α] {a b : List α} (h : a.length ≠ b.length) : ¬ a = b := λ e => h (by rw [e])
theorem Xu {x y : Reach} (h : x.fr = y.fr /\ x.to = y.to /\ x.sp.lo = y.sp.lo /\ x.sp.hi = y.sp.hi) : x = y := by
 obtain ⟨a, b, ⟨c, d⟩⟩ := x
 obtain ⟨a', b', ⟨c', d'⟩⟩ := y
 simpa using h
structure PInt where
 a : List Int
 b : List Int
def A27 (p : PInt) : Ann := { ann 26 [] with loops := λ id => if id = 4 then some [{ α := Nat, dflt := 0, T := λ k => ⟨[(0, .d (AW p.a)), (1, .d (AW p.b)), (5, .int k)], []⟩, inv := λ k => p.a.length = p.b.length /\ k <= p.a.length /\ ∀ i, i < k -> gD p.a i = gD p.b i, meas := λ k => p.a.length - k }] else none }
def C27 : Ctr := { α := PInt, xs := λ p => [.d (AW p.a), .d (AW p.b)], L := λ _ => [], val := λ p => .bool (decide (p.a = p.b)), keep := λ _ => [], pre := λ p => [p.a.length < 4611686018427387904, p.b.length < 4611686018427387904] }
def d27 : List AVal -> Heap -> Option (PInt × List (Nat × Nat) × List Nat)
 | [.d (.list _ n g _), .d (.list _ m h _)], _ => some (⟨AD n λ i => FH (g i), AD m λ i => FH (h i)⟩, [], [])
 | _, _ => none
def V27 (p : PInt) : Prop := BC Try.prog (A27 p) Try.f27 (AH Try.f27) (C27.xs p) (AE []) (C27.val p) [] [] []
theorem vc27 (p : PInt) : (V27 p) = (bif (↑p.a.length : Int) != (↑p.b.length : Int) then decide (p.a = p.b) = false else (∃ (a : Nat), (p.a.length = p.a.length /\ (∀ (i : Nat), i < p.a.length -> gD p.a i = gD p.a i) /\
 p.b.length = p.b.length /\ (∀ (i : Nat), i < p.b.length -> gD p.b i = gD p.b i) /\ (↑a : Int) = 0) /\ p.a.length = p.b.length /\ a <= p.a.length /\ ∀ (i : Nat), i < a -> gD p.a i = gD p.b i) /\ ∀ (a : Nat), (p.a.length =
 p.b.length /\ a <= p.a.length /\ ∀ (i : Nat), i < a -> gD p.a i = gD p.b i) -> bif decide ((↑a : Int) < (↑p.a.length : Int)) then ((0 <= (↑a : Int) /\ (↑a : Int) < (↑p.a.length : Int)) /\ 0 <= (↑a : Int) /\ (↑a : Int) <
 (↑p.b.length : Int)) /\ bif gD p.a a != gD p.b a then decide (p.a = p.b) = false else ∃ (a_2 : Nat), (p.a.length = p.a.length /\ (∀ (i : Nat), i < p.a.length -> gD p.a i = gD p.a i) /\ p.b.length = p.b.length /\ (∀ (i : Nat),
 i < p.b.length -> gD p.b i = gD p.b i) /\ (↑a_2 : Int) = IntKind.i64.wrap ((↑a : Int) + 1)) /\ (p.a.length = p.b.length /\ a_2 <= p.a.length /\ ∀ (i : Nat), i < a_2 -> gD p.a i = gD p.b i) /\ p.a.length - a_2 < p.a.length - a
 else decide (p.a = p.b) = true) := by kernel_rfl
theorem p27 (p : PInt) (h1 : p.a.length < 4611686018427387904) (h2 : p.b.length < 4611686018427387904) : V27 p := by
 rw [vc27]; simp only [CC, eq_self, implies_true, forall_const]
 refine ⟨λ hb => ?_, λ hb => ⟨⟨0, rfl, ?_, Nat.zero_le _, λ i hi => by omega⟩, λ k ⟨q1, q2, q3⟩ => ⟨λ hlt => ⟨⟨⟨by omega, hlt⟩, by omega, by omega⟩, λ hc => ?_, λ hc => ⟨k + 1, (AN (by omega)).symm, ⟨q1, by omega, λ i hi => ?_⟩, by omega⟩⟩, λ hge => ?_⟩⟩⟩
 ·have : ¬ (p.a.length : Int) = p.b.length := by simpa using hb
  exact Ei (by omega)
 ·have : (p.a.length : Int) = p.b.length := by simpa using hb
  omega
 ·refine Jw (k := k) λ he => ?_
  simp [he] at hc
 ·by_cases he : i = k
  ·subst he
   simpa using hc
  ·exact q3 i (by omega)
 ·exact Bb q1 (by omega) q3
theorem ok27 : AI Try.prog 27 (C27.spec d27) := HQ C27 A27 [] [] Try.func27 (λ _ => by kernel_rfl) (λ _ => AF) (λ p h => p27 p h.1 h.2) (λ _ => IL rfl rfl) _
def C16 : Ctr := { α := List Int, xs := λ l => [.d (AW l)], L := λ _ => [], val := λ l => .d (AW l), keep := λ _ => [], pre := λ l => [l.length <= 1000000] }
def d16 : List AVal -> Heap -> Option (List Int × List (Nat × Nat) × List Nat)
 | [.d (.list _ n g _)], _ => some (AD n λ i => FH (g i), [], [])
 | _, _ => none
def V16 (l : List Int) : Prop := BC Try.prog (ann 7 []) Try.f16 (AH Try.f16) (C16.xs l) (AE []) (C16.val l) [] [] []
theorem vc16 (l : List Int) : (V16 l) = (((True /\ (0 < 0 -> 0 = 1)) /\ (True /\ (0 < l.length -> 1 = 1)) /\ (false = true -> 0 < l.length) /\ 0 + l.length <= 9223372036854775807 /\ (0 + l.length) * 8 <= 140737488355328) /\ l.length
 = 0 + l.length /\ ∀ (i : Nat), i < l.length -> gD l i = gD l (i - 0)) := by kernel_rfl
theorem p16 (l : List Int) (h : l.length <= 1000000) : V16 l := by
 rw [vc16]; simp only [CC, eq_self, implies_true, forall_const]
 simp; omega
theorem ok16 : AI Try.prog 16 (C16.spec d16) := HQ C16 (λ _ => ann 7 []) [] [] Try.func16 (λ _ => by kernel_rfl) (λ _ => AF) (λ l h => p16 l h) (λ _ => IL rfl rfl) _
structure PSpan where
 a : List Span
 b : List Span
def A37 (p : PSpan) : Ann := { ann 26 [] with loops := λ id => if id = 4 then some [{ α := Nat, dflt := 0, T := λ k => ⟨[(0, .d (GG p.a)), (1, .d (GG p.b)), (5, .int k)], []⟩, inv := λ k => p.a.length = p.b.length /\ k <= p.a.length /\ ∀ i, i < k -> gD p.a i = gD p.b i, meas := λ k => p.a.length - k }] else none }
def C37 : Ctr := { α := PSpan, xs := λ p => [.d (GG p.a), .d (GG p.b)], L := λ _ => [], val := λ p => .bool (decide (p.a = p.b)), keep := λ _ => [], pre := λ p => [p.a.length < 4611686018427387904, p.b.length < 4611686018427387904] }
def d37 : List AVal -> Heap -> Option (PSpan × List (Nat × Nat) × List Nat)
 | [.d (.list _ n g _), .d (.list _ m h _)], _ => some (⟨AD n λ i => IC (g i), AD m λ i => IC (h i)⟩, [], [])
 | _, _ => none
def V37 (p : PSpan) : Prop := BC Try.prog (A37 p) Try.f37 (AH Try.f37) (C37.xs p) (AE []) (C37.val p) [] [] []
theorem vc37 (p : PSpan) : (V37 p) = (bif (↑p.a.length : Int) != (↑p.b.length : Int) then decide (p.a = p.b) = false else (∃ (a : Nat), (p.a.length = p.a.length /\ (∀ (i : Nat), i < p.a.length -> (gD p.a i).lo = (gD p.a
 i).lo /\ (gD p.a i).hi = (gD p.a i).hi) /\ p.b.length = p.b.length /\ (∀ (i : Nat), i < p.b.length -> (gD p.b i).lo = (gD p.b i).lo /\ (gD p.b i).hi = (gD p.b i).hi) /\ (↑a : Int) = 0) /\ p.a.length = p.b.length /\ a <=
 p.a.length /\ ∀ (i : Nat), i < a -> gD p.a i = gD p.b i) /\ ∀ (a : Nat), (p.a.length = p.b.length /\ a <= p.a.length /\ ∀ (i : Nat), i < a -> gD p.a i = gD p.b i) -> bif decide ((↑a : Int) < (↑p.a.length : Int)) then ((0 <= (↑a :
 Int) /\ (↑a : Int) < (↑p.a.length : Int)) /\ 0 <= (↑a : Int) /\ (↑a : Int) < (↑p.b.length : Int)) /\ bif !((gD p.a a).lo == (gD p.b a).lo && ((gD p.a a).hi == (gD p.b a).hi && true)) then decide (p.a = p.b) = false else ∃
 (a_2 : Nat), (p.a.length = p.a.length /\ (∀ (i : Nat), i < p.a.length -> (gD p.a i).lo = (gD p.a i).lo /\ (gD p.a i).hi = (gD p.a i).hi) /\ p.b.length = p.b.length /\ (∀ (i : Nat), i < p.b.length -> (gD p.b i).lo = (gD p.b
 i).lo /\ (gD p.b i).hi = (gD p.b i).hi) /\ (↑a_2 : Int) = IntKind.i64.wrap ((↑a : Int) + 1)) /\ (p.a.length = p.b.length /\ a_2 <= p.a.length /\ ∀ (i : Nat), i < a_2 -> gD p.a i = gD p.b i) /\ p.a.length - a_2 < p.a.length - a
 else decide (p.a = p.b) = true) := by kernel_rfl
theorem p37 (p : PSpan) (h1 : p.a.length < 4611686018427387904) (h2 : p.b.length < 4611686018427387904) : V37 p := by
 rw [vc37]; simp only [CC, eq_self, implies_true, forall_const]
 refine ⟨λ hb => ?_, λ hb => ⟨⟨0, rfl, ?_, Nat.zero_le _, λ i hi => by omega⟩, λ k ⟨q1, q2, q3⟩ => ⟨λ hlt => ⟨⟨⟨by omega, hlt⟩, by omega, by omega⟩, λ hc => ?_, λ hc => ⟨k + 1, (AN (by omega)).symm, ⟨q1, by omega, λ i hi => ?_⟩, by omega⟩⟩, λ hge => ?_⟩⟩⟩
 ·have : ¬ (p.a.length : Int) = p.b.length := by simpa using hb
  exact Ei (by omega)
 ·have : (p.a.length : Int) = p.b.length := by simpa using hb
  omega
 ·refine Jw (k := k) λ he => ?_
  simp [he] at hc
 ·by_cases he : i = k
  ·subst he
   cases hx : gD p.a i; cases hy : gD p.b i; simp [hx, hy] at hc ⊢; exact hc
  ·exact q3 i (by omega)
 ·exact Bb q1 (by omega) q3
theorem ok37 : AI Try.prog 37 (C37.spec d37) := HQ C37 A37 [] [] Try.func37 (λ _ => by kernel_rfl) (λ _ => AF) (λ p h => p37 p h.1 h.2) (λ _ => IL rfl rfl) _
def C51 : Ctr := { α := List Span, xs := λ l => [.d (GG l)], L := λ _ => [], val := λ l => .d (GG l), keep := λ _ => [], pre := λ l => [l.length <= 1000000] }
def d51 : List AVal -> Heap -> Option (List Span × List (Nat × Nat) × List Nat)
 | [.d (.list _ n g _)], _ => some (AD n λ i => IC (g i), [], [])
 | _, _ => none
def V51 (l : List Span) : Prop := BC Try.prog (ann 7 []) Try.f51 (AH Try.f51) (C51.xs l) (AE []) (C51.val l) [] [] []
theorem vc51 (l : List Span) : (V51 l) = (((True /\ (0 < 0 -> 0 = 2)) /\ (True /\ (0 < l.length -> 2 = 2)) /\ (false = true -> 0 < l.length) /\ 0 + l.length <= 9223372036854775807 /\ (0 + l.length) * 16 <= 140737488355328) /\
 l.length = 0 + l.length /\ ∀ (i : Nat), i < l.length -> (gD l i).lo = (gD l (i - 0)).lo /\ (gD l i).hi = (gD l (i - 0)).hi) := by kernel_rfl
theorem p51 (l : List Span) (h : l.length <= 1000000) : V51 l := by
 rw [vc51]; simp only [CC, eq_self, implies_true, forall_const]
 simp; omega
theorem ok51 : AI Try.prog 51 (C51.spec d51) := HQ C51 (λ _ => ann 7 []) [] [] Try.func51 (λ _ => by kernel_rfl) (λ _ => AF) (λ l h => p51 l h) (λ _ => IL rfl rfl) _
structure PReach where
 a : List Reach
 b : List Reach
def A72 (p : PReach) : Ann := { ann 26 [] with loops := λ id => if id = 4 then some [{ α := Nat, dflt := 0, T := λ k => ⟨[(0, .d (DB p.a)), (1, .d (DB p.b)), (5, .int k)], []⟩, inv := λ k => p.a.length = p.b.length /\ k <= p.a.length /\ ∀ i, i < k -> gD p.a i = gD p.b i, meas := λ k => p.a.length - k }] else none }
def C72 : Ctr := { α := PReach, xs := λ p => [.d (DB p.a), .d (DB p.b)], L := λ _ => [], val := λ p => .bool (decide (p.a = p.b)), keep := λ _ => [], pre := λ p => [p.a.length < 4611686018427387904, p.b.length < 4611686018427387904] }
def d72 : List AVal -> Heap -> Option (PReach × List (Nat × Nat) × List Nat)
 | [.d (.list _ n g _), .d (.list _ m h _)], _ => some (⟨AD n λ i => FM (g i), AD m λ i => FM (h i)⟩, [], [])
 | _, _ => none
def V72 (p : PReach) : Prop := BC Try.prog (A72 p) Try.f72 (AH Try.f72) (C72.xs p) (AE []) (C72.val p) [] [] []
theorem vc72 (p : PReach) : (V72 p) = (bif (↑p.a.length : Int) != (↑p.b.length : Int) then decide (p.a = p.b) = false else (∃ (a : Nat), (p.a.length = p.a.length /\ (∀ (i : Nat), i < p.a.length -> (gD p.a i).fr = (gD p.a
 i).fr /\ (gD p.a i).to = (gD p.a i).to /\ (gD p.a i).sp.lo = (gD p.a i).sp.lo /\ (gD p.a i).sp.hi = (gD p.a i).sp.hi) /\ p.b.length = p.b.length /\ (∀ (i : Nat), i < p.b.length -> (gD p.b i).fr = (gD p.b i).fr /\ (gD p.b i).to
 = (gD p.b i).to /\ (gD p.b i).sp.lo = (gD p.b i).sp.lo /\ (gD p.b i).sp.hi = (gD p.b i).sp.hi) /\ (↑a : Int) = 0) /\ p.a.length = p.b.length /\ a <= p.a.length /\ ∀ (i : Nat), i < a -> gD p.a i = gD p.b i) /\ ∀ (a : Nat),
 (p.a.length = p.b.length /\ a <= p.a.length /\ ∀ (i : Nat), i < a -> gD p.a i = gD p.b i) -> bif decide ((↑a : Int) < (↑p.a.length : Int)) then ((0 <= (↑a : Int) /\ (↑a : Int) < (↑p.a.length : Int)) /\ 0 <= (↑a : Int) /\ (↑a :
 Int) < (↑p.b.length : Int)) /\ bif !((gD p.a a).fr == (gD p.b a).fr && ((gD p.a a).to == (gD p.b a).to && ((gD p.a a).sp.lo == (gD p.b a).sp.lo && ((gD p.a a).sp.hi == (gD p.b a).sp.hi && true) && true))) then decide (p.a
 = p.b) = false else ∃ (a_2 : Nat), (p.a.length = p.a.length /\ (∀ (i : Nat), i < p.a.length -> (gD p.a i).fr = (gD p.a i).fr /\ (gD p.a i).to = (gD p.a i).to /\ (gD p.a i).sp.lo = (gD p.a i).sp.lo /\ (gD p.a i).sp.hi = (gD
 p.a i).sp.hi) /\ p.b.length = p.b.length /\ (∀ (i : Nat), i < p.b.length -> (gD p.b i).fr = (gD p.b i).fr /\ (gD p.b i).to = (gD p.b i).to /\ (gD p.b i).sp.lo = (gD p.b i).sp.lo /\ (gD p.b i).sp.hi = (gD p.b i).sp.hi) /\ (↑a_2
 : Int) = IntKind.i64.wrap ((↑a : Int) + 1)) /\ (p.a.length = p.b.length /\ a_2 <= p.a.length /\ ∀ (i : Nat), i < a_2 -> gD p.a i = gD p.b i) /\ p.a.length - a_2 < p.a.length - a else decide (p.a = p.b) = true) := by kernel_rfl
theorem p72 (p : PReach) (h1 : p.a.length < 4611686018427387904) (h2 : p.b.length < 4611686018427387904) : V72 p := by
 rw [vc72]; simp only [CC, eq_self, implies_true, forall_const]
 refine ⟨λ hb => ?_, λ hb => ⟨⟨0, rfl, ?_, Nat.zero_le _, λ i hi => by omega⟩, λ k ⟨q1, q2, q3⟩ => ⟨λ hlt => ⟨⟨⟨by omega, hlt⟩, by omega, by omega⟩, λ hc => ?_, λ hc => ⟨k + 1, (AN (by omega)).symm, ⟨q1, by omega, λ i hi => ?_⟩, by omega⟩⟩, λ hge => ?_⟩⟩⟩
 ·have : ¬ (p.a.length : Int) = p.b.length := by simpa using hb
  exact Ei (by omega)
 ·have : (p.a.length : Int) = p.b.length := by simpa using hb
  omega
 ·refine Jw (k := k) λ he => ?_
  simp [he] at hc
 ·by_cases he : i = k
  ·subst he
   exact Xu (by simpa using hc)
  ·exact q3 i (by omega)
 ·exact Bb q1 (by omega) q3
theorem ok72 : AI Try.prog 72 (C72.spec d72) := HQ C72 A72 [] [] Try.func72 (λ _ => by kernel_rfl) (λ _ => AF) (λ p h => p72 p h.1 h.2) (λ _ => IL rfl rfl) _
def C52 : Ctr := { α := List Reach, xs := λ l => [.d (DB l)], L := λ _ => [], val := λ l => .d (DB l), keep := λ _ => [], pre := λ l => [l.length <= 1000000] }
def d52 : List AVal -> Heap -> Option (List Reach × List (Nat × Nat) × List Nat)
 | [.d (.list _ n g _)], _ => some (AD n λ i => FM (g i), [], [])
 | _, _ => none
def V52 (l : List Reach) : Prop := BC Try.prog (ann 7 []) Try.f52 (AH Try.f52) (C52.xs l) (AE []) (C52.val l) [] [] []
theorem vc52 (l : List Reach) : (V52 l) = (((True /\ (0 < 0 -> 0 = 4)) /\ (True /\ (0 < l.length -> 4 = 4)) /\ (false = true -> 0 < l.length) /\ 0 + l.length <= 9223372036854775807 /\ (0 + l.length) * 32 <= 140737488355328) /\
 l.length = 0 + l.length /\ ∀ (i : Nat), i < l.length -> (gD l i).fr = (gD l (i - 0)).fr /\ (gD l i).to = (gD l (i - 0)).to /\ (gD l i).sp.lo = (gD l (i - 0)).sp.lo /\ (gD l i).sp.hi = (gD l (i - 0)).sp.hi) := by kernel_rfl
theorem p52 (l : List Reach) (h : l.length <= 1000000) : V52 l := by
 rw [vc52]; simp only [CC, eq_self, implies_true, forall_const]
 simp; omega
theorem ok52 : AI Try.prog 52 (C52.spec d52) := HQ C52 (λ _ => ann 7 []) [] [] Try.func52 (λ _ => by kernel_rfl) (λ _ => AF) (λ l h => p52 l h) (λ _ => IL rfl rfl) _
end Go.Bal

namespace Go.Bal
open Go Go.Sym Go.Proofs
def V50 (a b : Int) : Prop := BC Try.prog (ann 8 []) Try.f50 (AH Try.f50) [.int a, .int b] (AE []) (.d (EU ⟨a, b⟩)) [] [] []
theorem vc50 (a : Int) (b : Int) : (V50 a b) = (a = a /\ b = b) := by kernel_rfl
def f50 : List AVal -> Option (AVal × List Prop)
 | [.d (.v (.int .i64 a)), .d (.v (.int .i64 b))] => some (.d (EU ⟨a, b⟩), [])
 | _ => none
def s50 := DX f50
theorem ok50 : AI Try.prog 50 s50 := CE λ xs v p h _ => by
 unfold f50 at h; split at h
 ·cases h; exact NE (A := ann 8 []) (ren := []) (fz := []) Try.func50 (by kernel_rfl) AF (by show V50 _ _; rw [vc50]; exact ⟨rfl, rfl⟩)
 ·cases h
def KF (lo hi : Int) : NetL := ⟨[⟨100, 120⟩, ⟨0, 10⟩, ⟨-200, -100⟩], [⟨0, 1, ⟨90, 115⟩⟩, ⟨1, 2, ⟨lo, hi⟩⟩]⟩
def A49 := ann 17 [(50, s50)]
def C49 : Ctr := { α := Span, xs := λ s => [.int s.lo, .int s.hi], L := λ _ => [], val := λ s => .d (EI (KF s.lo s.hi)), keep := λ _ => [] }
def d49 : List AVal -> Heap -> Option (Span × List (Nat × Nat) × List Nat)
 | [.d (.v (.int _ a)), .d (.v (.int _ b))], _ => some (⟨a, b⟩, [], [])
 | _, _ => none
def V49 (s : Span) : Prop := BC Try.prog A49 Try.f49 (AH Try.f49) (C49.xs s) (AE []) (C49.val s) [] [] [2048, 2160]
theorem vc49 (s : Span) : (V49 s) = ((KF s.lo s.hi).g.length = 3 /\ 3 <= 3 /\ (∀ (j : Nat), j < (KF s.lo s.hi).g.length -> ((gD (KF s.lo s.hi).g j).lo = bif decide (0 + j = 0) then 100 else bif decide (0 + j - 1
 = 0) then 0 else -200) /\ (gD (KF s.lo s.hi).g j).hi = bif decide (0 + j = 0) then 120 else bif decide (0 + j - 1 = 0) then 10 else -100) /\ (KF s.lo s.hi).r.length = 2 /\ 2 <= 2 /\ ∀ (j : Nat), j < (KF s.lo
 s.hi).r.length -> ((gD (KF s.lo s.hi).r j).fr = bif decide (0 + j = 0) then 0 else 1) /\ ((gD (KF s.lo s.hi).r j).to = bif decide (0 + j = 0) then 1 else 2) /\ ((gD (KF s.lo s.hi).r j).sp.lo = bif decide (0 + j
 = 0) then 90 else s.lo) /\ (gD (KF s.lo s.hi).r j).sp.hi = bif decide (0 + j = 0) then 115 else s.hi) := by kernel_rfl
theorem p49 (s : Span) : V49 s := by
 rw [vc49]; simp only [CC, eq_self, implies_true, forall_const]
 refine ⟨rfl, by decide, λ j hj => ?_, rfl, by decide, λ j hj => ?_⟩
 ·have hj : j < 3 := hj
  match j, hj with
  | 0, _ => exact ⟨rfl, rfl⟩
  | 1, _ => exact ⟨rfl, rfl⟩
  | 2, _ => exact ⟨rfl, rfl⟩
 ·have hj : j < 2 := hj
  match j, hj with
  | 0, _ => exact ⟨rfl, rfl, rfl, rfl⟩
  | 1, _ => exact ⟨rfl, rfl, rfl, rfl⟩
theorem ok49 : AI Try.prog 49 (C49.spec d49) := HQ C49 (λ _ => A49) [] [2048, 2160] Try.func49 (λ _ => by kernel_rfl) (λ _ => AA ok50 AF) (λ s _ => p49 s) (λ _ => IL rfl rfl) _
def A15 := ann 10 [(51, C51.spec d51), (52, C52.spec d52)]
def C15 : Ctr := { α := NetL, xs := λ N => [.d (EI N)], L := λ _ => [], val := λ N => .d (EI N), keep := λ _ => [], pre := λ N => [N.g.length <= 1000000, N.r.length <= 1000000] }
def V15 (N : NetL) : Prop := BC Try.prog A15 Try.f15 (AH Try.f15) (C15.xs N) (AE []) (C15.val N) [] [] []
theorem vc15 (N : NetL) : (V15 N) = (((AD N.g.length λ (i : Nat) => gD N.g i).length = N.g.length /\ (∀ (i : Nat), i < (AD N.g.length λ (i : Nat) => gD N.g i).length -> (gD (AD N.g.length λ (i : Nat) => gD N.g i)
 i).lo = (gD N.g i).lo /\ (gD (AD N.g.length λ (i : Nat) => gD N.g i) i).hi = (gD N.g i).hi) /\ (AD N.g.length λ (i : Nat) => gD N.g i).length <= 1000000 /\ (AD N.r.length λ (i : Nat) => gD N.r i).length = N.r.length
 /\ (∀ (i : Nat), i < (AD N.r.length λ (i : Nat) => gD N.r i).length -> (gD (AD N.r.length λ (i : Nat) => gD N.r i) i).fr = (gD N.r i).fr /\ (gD (AD N.r.length λ (i : Nat) => gD N.r i) i).to = (gD N.r i).to /\ (gD
 (AD N.r.length λ (i : Nat) => gD N.r i) i).sp.lo = (gD N.r i).sp.lo /\ (gD (AD N.r.length λ (i : Nat) => gD N.r i) i).sp.hi = (gD N.r i).sp.hi) /\ (AD N.r.length λ (i : Nat) => gD N.r i).length.le 1000000) /\
 N.g.length = (AD N.g.length λ (i : Nat) => gD N.g i).length /\ (∀ (i : Nat), i < N.g.length -> (gD N.g i).lo = (gD (AD N.g.length λ (i : Nat) => gD N.g i) i).lo /\ (gD N.g i).hi = (gD (AD N.g.length λ (i : Nat) =>
 gD N.g i) i).hi) /\ N.r.length = (AD N.r.length λ (i : Nat) => gD N.r i).length /\ ∀ (i : Nat), i < N.r.length -> (gD N.r i).fr = (gD (AD N.r.length λ (i : Nat) => gD N.r i) i).fr /\ (gD N.r i).to = (gD (AD N.r.length
 λ (i : Nat) => gD N.r i) i).to /\ (gD N.r i).sp.lo = (gD (AD N.r.length λ (i : Nat) => gD N.r i) i).sp.lo /\ (gD N.r i).sp.hi = (gD (AD N.r.length λ (i : Nat) => gD N.r i) i).sp.hi) := by kernel_rfl
theorem p15 (N : NetL) (h1 : N.g.length <= 1000000) (h2 : N.r.length <= 1000000) : V15 N := by
 rw [vc15]; simp only [CC, eq_self, implies_true, forall_const]
 exact ⟨h1, h2⟩
theorem ok15 : AI Try.prog 15 (C15.spec QO) := HQ C15 (λ _ => A15) [] [] Try.func15 (λ _ => by kernel_rfl) (λ _ => AA ok51 (AA ok52 AF)) (λ N h => p15 N h.1 h.2) (λ _ => IL rfl rfl) _
def nwB (N : NetL) (v : AVal) : HCell := .live (.box [.d (GG N.g), v])
def A17 (N : NetL) : Ann := { ann 27 [(51, C51.spec d51)] with mt := λ id => id == 5, loops := λ id => if id = 3 then some [{ α := Nat, dflt := 0, T := λ k => ⟨[(1, .bptr 201 0), (2, .bptr 202 0), (3, .bptr 203 0), (4, .int k)], [(201, EZ N), (202, .live (.box [.d LT, .d LT])), (203, nwB N (.d LT))]⟩, inv := λ k => k = 0, meas := λ k => N.r.length - k, first := [(201, 1000), (202, 1016), (203, 2064)] }, { α := Nat, dflt := 0, T := λ k => ⟨[(1, .bptr 201 0), (2, .bptr 202 0), (3, .bptr 203 0), (4, .int k)], [(201, EZ N), (202, .live (.box [.d LT, .d LT])), (203, nwB N (.own 204 4 0 k)), (204, .live (.row 4 k λ i => MU (gD N.r i)))]⟩, inv := λ k => k <= N.r.length, meas := λ k => N.r.length - k, again := [(204, 6128)] }] else none }
def C17 : Ctr := { C15 with val := λ (N : NetL) => .d (EI N) }
def d17 : List AVal -> Heap -> Option (C17.α × List (Nat × Nat) × List Nat) := QO
def V17 (N : NetL) : Prop := BC Try.prog (A17 N) Try.f17 (AH Try.f17) (C17.xs N) (AE []) (C17.val N) [] [] [204]
theorem vc17 (N : NetL) : (V17 N) = (let q := N
 let y0 : List Span := AD q.g.length λ (i : Nat) => gD q.g i
 let y1 := y0.length
 let y2 (i : Nat) : Span := gD y0 i
 let y3 (i : Nat) := (y2 i).lo
 let y4 (i : Nat) := (y2 i).hi
 let y5 := q.g.length = q.g.length
 let y6 := ∀ (i : Nat), i < q.g.length -> (gD q.g i).lo = (gD q.g i).lo /\ (gD q.g i).hi = (gD q.g i).hi
 let y7 := q.r.length = q.r.length
 let y8 := ∀ (i : Nat), i < q.r.length -> (gD q.r i).fr = (gD q.r i).fr /\ (gD q.r i).to = (gD q.r i).to /\ (gD q.r i).sp.lo = (gD q.r i).sp.lo /\ (gD q.r i).sp.hi = (gD q.r i).sp.hi
 let y9 := 0 = 0
 let y10 := ∀ (i : Nat), i < 0 -> false = false
 let y11 (a : Nat) := (↑a : Int) < (↑q.r.length : Int)
 let y12 (a : Nat) := decide (y11 a)
 let y13 (a : Nat) := 0 <= (↑a : Int) /\ y11 a
 let y14 := 0 < 1
 let y15 := 4 = 4
 let y16 := 1 <= 1 /\ (y14 -> y15)
 let y17 (a : Nat) (a1 : Nat) := (↑a : Int) = IntKind.i64.wrap ((↑a1 : Int) + 1)
 let y18 (a : Nat) := q.r.length - a
 let y19 (a : Nat) (a1 : Nat) := a.le q.r.length /\ y18 a < y18 a1
 let y20 := q.r.length = 0
 let y21 (a : Nat) := a + 1
 let y22 (a : Nat) (a1 : Nat) := a = y21 a1
 let y23 (a : Nat) := 0 + a
 let y24 (j : Nat) : Reach := gD q.r (y23 j)
 let y25 (j : Nat) : Span := (y24 j).sp
 ((y1 = N.g.length /\ (∀ (i : Nat), i < y1 -> y3 i = (gD N.g i).lo /\ y4 i = (gD N.g i).hi) /\ y1.le 1000000) /\ (∃ (a : Nat), ((↑a : Int) = 0 /\ y5 /\ y6
 /\ y7 /\ y8 /\ y9 /\ y10 /\ y9 /\ y10 /\ N.g.length = y1 /\ (∀ (i : Nat), i < N.g.length -> (gD N.g i).lo = y3 i /\ (gD N.g i).hi = y4 i) /\ y9 /\ y10) /\ a = 0) /\ (∀ (a : Nat), a = 0 -> bif
 y12 a then (y13 a /\ (True /\ (0 < 0 -> 0 = 4)) /\ y16 /\ (true = true -> y14) /\ 1 <= 9223372036854775807 /\ 32 <= 140737488355328) /\ ∃ (a_2 : Nat), (y17 a_2 a /\ y5 /\ y6 /\ y7 /\ y8 /\ y9 /\
 y10 /\ y9 /\ y10 /\ y5 /\ y6 /\ y9 /\ a_2 = 1 /\ a_2 = 1 /\ ∀ (i : Nat), i < a_2 -> (gD N.r i).fr = (gD N.r a).fr /\ (gD N.r i).to = (gD N.r a).to /\ (gD N.r i).sp.lo = (gD N.r a).sp.lo /\ (gD N.r i).sp.hi =
 (gD N.r a).sp.hi) /\ y19 a_2 a else y5 /\ y6 /\ y20 /\ y20) /\ ∀ (a : Nat), a.le N.r.length -> bif y12 a then (y13 a /\ (a = a /\ (0 < a -> y15)) /\ y16 /\ (false = true -> y14) /\ y21 a
 <= 9223372036854775807 /\ y21 a * 32 <= 140737488355328) /\ ∃ (a_2 : Nat), (y17 a_2 a /\ y5 /\ y6 /\ y7 /\ y8 /\ y9 /\ y10 /\ y9 /\ y10 /\ y5 /\ y6 /\ y9 /\ y22 a_2 a /\ y22 a_2 a
 /\ ∀ (i : Nat), i < a_2 -> ((gD N.r i).fr = bif decide (i < a) then (gD N.r i).fr else (gD N.r a).fr) /\ ((gD N.r i).to = bif decide (i < a) then (gD N.r i).to else (gD N.r a).to) /\ ((gD N.r i).sp.lo = bif decide (i < a)
 then (gD N.r i).sp.lo else (gD N.r a).sp.lo) /\ (gD N.r i).sp.hi = bif decide (i < a) then (gD N.r i).sp.hi else (gD N.r a).sp.hi) /\ y19 a_2 a else y5 /\ y6 /\ N.r.length = a /\ y23 a <= a /\ ∀ (j : Nat), j <
 N.r.length -> (gD N.r j).fr = (y24 j).fr /\ (gD N.r j).to = (y24 j).to /\ (gD N.r j).sp.lo = (y25 j).lo /\ (gD N.r j).sp.hi = (y25 j).hi)) := by kernel_rfl
theorem p17 (N : NetL) (h1 : N.g.length <= 1000000) (h2 : N.r.length <= 1000000) : V17 N := by
 rw [vc17]; (conv => zeta); simp only [CC, eq_self, implies_true, forall_const]
 refine ⟨h1, ⟨0, rfl, rfl⟩, λ k hk => ⟨λ hlt => ⟨⟨⟨by omega, hlt⟩, by decide, by decide, by decide, by decide, by decide⟩, ?_⟩, λ hge => by omega⟩, λ k hk => ⟨λ hlt => ⟨⟨⟨by omega, hlt⟩, by decide, by decide, by omega, by omega⟩, ?_⟩, λ hge => ⟨by omega, Nat.le_refl _⟩⟩⟩
 ·subst hk
  refine ⟨1, ⟨rfl, rfl, rfl, λ i hi => ?_⟩, by omega, by omega⟩
  have : i = 0 := by omega
  subst this; exact ⟨rfl, rfl, rfl, rfl⟩
 ·refine ⟨k + 1, ⟨(AN (by omega)).symm, rfl, rfl, λ i hi => ?_⟩, by omega, by omega⟩
  by_cases hi2 : i < k
  ·simp [hi2]
  ·have : i = k := by omega
   subst this; simp
theorem ok17 : AI Try.prog 17 (C17.spec d17) := HQ C17 A17 [] [204] Try.func17 (λ _ => by kernel_rfl) (λ _ => AA ok51 AF) (λ N h => p17 N h.1 h.2) (λ _ => IL rfl rfl) _
structure PNet where
 a : NetL
 b : NetL
def A28 := ann 17 [(37, C37.spec d37), (72, C72.spec d72)]
def QJ (N : NetL) : Prop := N.g.length <= 1000000 /\ N.r.length <= 1000000
def C28 : Ctr := { α := PNet, xs := λ p => [.d (EI p.a), .d (EI p.b)], L := λ _ => [], val := λ p => .bool (decide (p.a = p.b)), keep := λ _ => [], pre := λ p => [QJ p.a, QJ p.b] }
def d28 : List AVal -> Heap -> Option (PNet × List (Nat × Nat) × List Nat)
 | [.d x, .d y], _ => match MV x, MV y with
  | some M, some N => some (⟨M, N⟩, [], [])
  | _, _ => none
 | _, _ => none
def V28 (p : PNet) : Prop := BC Try.prog A28 Try.f28 (AH Try.f28) (C28.xs p) (AE []) (C28.val p) [] [] []
theorem vc28 (p : PNet) : (V28 p) = (((AD p.a.g.length λ (i : Nat) => gD p.a.g i).length = p.a.g.length /\ (∀ (i : Nat), i < (AD p.a.g.length λ (i : Nat) => gD p.a.g i).length -> (gD (AD p.a.g.length λ (i : Nat)
 => gD p.a.g i) i).lo = (gD p.a.g i).lo /\ (gD (AD p.a.g.length λ (i : Nat) => gD p.a.g i) i).hi = (gD p.a.g i).hi) /\ (AD p.b.g.length λ (i : Nat) => gD p.b.g i).length = p.b.g.length /\ (∀ (i : Nat), i < (AD
 p.b.g.length λ (i : Nat) => gD p.b.g i).length -> (gD (AD p.b.g.length λ (i : Nat) => gD p.b.g i) i).lo = (gD p.b.g i).lo /\ (gD (AD p.b.g.length λ (i : Nat) => gD p.b.g i) i).hi = (gD p.b.g i).hi) /\ (AD
 p.a.g.length λ (i : Nat) => gD p.a.g i).length < 4611686018427387904 /\ (AD p.b.g.length λ (i : Nat) => gD p.b.g i).length < 4611686018427387904 /\ (decide ((AD p.a.g.length λ (i : Nat) => gD p.a.g i) = AD
 p.b.g.length λ (i : Nat) => gD p.b.g i) = true -> (AD p.a.r.length λ (i : Nat) => gD p.a.r i).length = p.a.r.length /\ (∀ (i : Nat), i < (AD p.a.r.length λ (i : Nat) => gD p.a.r i).length -> (gD (AD p.a.r.length
 λ (i : Nat) => gD p.a.r i) i).fr = (gD p.a.r i).fr /\ (gD (AD p.a.r.length λ (i : Nat) => gD p.a.r i) i).to = (gD p.a.r i).to /\ (gD (AD p.a.r.length λ (i : Nat) => gD p.a.r i) i).sp.lo = (gD p.a.r i).sp.lo /\ (gD
 (AD p.a.r.length λ (i : Nat) => gD p.a.r i) i).sp.hi = (gD p.a.r i).sp.hi) /\ (AD p.b.r.length λ (i : Nat) => gD p.b.r i).length = p.b.r.length /\ (∀ (i : Nat), i < (AD p.b.r.length λ (i : Nat) => gD p.b.r
 i).length -> (gD (AD p.b.r.length λ (i : Nat) => gD p.b.r i) i).fr = (gD p.b.r i).fr /\ (gD (AD p.b.r.length λ (i : Nat) => gD p.b.r i) i).to = (gD p.b.r i).to /\ (gD (AD p.b.r.length λ (i : Nat) => gD p.b.r i)
 i).sp.lo = (gD p.b.r i).sp.lo /\ (gD (AD p.b.r.length λ (i : Nat) => gD p.b.r i) i).sp.hi = (gD p.b.r i).sp.hi) /\ (AD p.a.r.length λ (i : Nat) => gD p.a.r i).length < 4611686018427387904 /\ (AD p.b.r.length λ (i :
 Nat) => gD p.b.r i).length.succ.le 4611686018427387904)) /\ decide (p.a = p.b) = bif decide ((AD p.a.g.length λ (i : Nat) => gD p.a.g i) = AD p.b.g.length λ (i : Nat) => gD p.b.g i) then decide ((AD p.a.r.length
 λ (i : Nat) => gD p.a.r i) = AD p.b.r.length λ (i : Nat) => gD p.b.r i) else false) := by kernel_rfl
theorem p28 (p : PNet) (h1 : QJ p.a) (h2 : QJ p.b) : V28 p := by
 rw [vc28]; simp only [CC, eq_self, implies_true, forall_const]
 obtain ⟨a1, a2⟩ := h1
 obtain ⟨b1, b2⟩ := h2
 refine ⟨⟨by omega, by omega, λ _ => ⟨by omega, by omega⟩⟩, ?_⟩
 obtain ⟨⟨g, r⟩, ⟨g', r'⟩⟩ := p
 by_cases h1 : g = g' <;> by_cases h2 : r = r' <;> simp [h1, h2]
theorem ok28 : AI Try.prog 28 (C28.spec d28) := HQ C28 (λ _ => A28) [] [] Try.func28 (λ _ => by kernel_rfl) (λ _ => AA ok37 (AA ok72 AF)) (λ p h => p28 p h.1 h.2) (λ _ => IL rfl rfl) _
end Go.Bal
