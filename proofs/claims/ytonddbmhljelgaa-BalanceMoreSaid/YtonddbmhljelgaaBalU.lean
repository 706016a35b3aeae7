/- The statements' kit: Same, Copy; nets copied. Printed by genkit.py. -/
import Derived.Test.YtonddbmhljelgaaBalS
set_option linter.unusedVariables false
set_option linter.unusedSimpArgs false
namespace Go.Bal
open Go Go.Sym Go.Proofs
theorem Fw {α : Type} [Inhabited α] [DecidableEq α] {a b : List α} (h : a.length = b.length) {k : Nat} (hk : a.length <= k) (he : ∀ i, i < k -> gD a i = gD b i) : a = b := OD h λ i hi => he i (by omega)
theorem Kl {α : Type} [Inhabited α] [DecidableEq α] {a b : List α} {k : Nat} (he : gD a k ≠ gD b k) : ¬ a = b := λ h => he (by rw [h])
theorem Fu {α : Type} [DecidableEq α] {a b : List α} (h : a.length ≠ b.length) : ¬ a = b := λ e => h (by rw [e])
structure PInt where
 a : List Int
 b : List Int
def A27 (p : PInt) : Ann := { ann 26 [] with loops := λ id => if id = 4 then some [{ α := Nat, dflt := 0, T := λ k => ⟨[(0, .d (CV p.a)), (1, .d (CV p.b)), (5, .int k)], []⟩, inv := λ k => p.a.length = p.b.length /\ k <= p.a.length /\ ∀ i, i < k -> gD p.a i = gD p.b i, meas := λ k => p.a.length - k }] else none }
def C27 : Ctr := { α := PInt, xs := λ p => [.d (CV p.a), .d (CV p.b)], L := λ _ => [], val := λ p => .bool (decide (p.a = p.b)), keep := λ _ => [], pre := λ p => [p.a.length < 4611686018427387904, p.b.length < 4611686018427387904] }
def d27 : List AVal -> Heap -> Option (PInt × List (Nat × Nat) × List Nat)
 | [.d (.list _ n g _), .d (.list _ m h _)], _ => some (⟨AC n λ i => EW (g i), AC m λ i => EW (h i)⟩, [], [])
 | _, _ => none
def V27 (p : PInt) : Prop := BM Try.prog (A27 p) Try.f27 (AJ Try.f27) (C27.xs p) (AE []) (C27.val p) [] [] []
theorem vc27 (p : PInt) : (V27 p) = (bif (↑p.a.length : Int) != (↑p.b.length : Int) then decide (p.a = p.b) = false else (∃ (a : Nat), (p.a.length = p.a.length /\ (∀ (i : Nat), i < p.a.length -> gD p.a i = gD p.a i) /\
 p.b.length = p.b.length /\ (∀ (i : Nat), i < p.b.length -> gD p.b i = gD p.b i) /\ (↑a : Int) = 0) /\ p.a.length = p.b.length /\ a <= p.a.length /\ ∀ (i : Nat), i < a -> gD p.a i = gD p.b i) /\ ∀ (a : Nat), (p.a.length =
 p.b.length /\ a <= p.a.length /\ ∀ (i : Nat), i < a -> gD p.a i = gD p.b i) -> bif decide ((↑a : Int) < (↑p.a.length : Int)) then ((0 <= (↑a : Int) /\ (↑a : Int) < (↑p.a.length : Int)) /\ 0 <= (↑a : Int) /\ (↑a : Int) <
 (↑p.b.length : Int)) /\ bif gD p.a a != gD p.b a then decide (p.a = p.b) = false else ∃ (a_2 : Nat), (p.a.length = p.a.length /\ (∀ (i : Nat), i < p.a.length -> gD p.a i = gD p.a i) /\ p.b.length = p.b.length /\ (∀ (i : Nat),
 i < p.b.length -> gD p.b i = gD p.b i) /\ (↑a_2 : Int) = IntKind.i64.wrap ((↑a : Int) + 1)) /\ (p.a.length = p.b.length /\ a_2 <= p.a.length /\ ∀ (i : Nat), i < a_2 -> gD p.a i = gD p.b i) /\ p.a.length - a_2 < p.a.length - a
 else decide (p.a = p.b) = true) := by kernel_rfl
theorem p27 (p : PInt) (h1 : p.a.length < 4611686018427387904) (h2 : p.b.length < 4611686018427387904) : V27 p := by
 rw [vc27]; simp only [CC, eq_self, implies_true, forall_const]
 refine ⟨λ hb => ?_, λ hb => ⟨⟨0, rfl, ?_, Nat.zero_le _, λ i hi => by omega⟩, λ k ⟨q1, q2, q3⟩ => ⟨λ hlt => ⟨⟨⟨by omega, hlt⟩, by omega, by omega⟩, λ hc => ?_, λ hc => ⟨k + 1, (BB (by omega)).symm, ⟨q1, by omega, λ i hi => ?_⟩, by omega⟩⟩, λ hge => ?_⟩⟩⟩
 ·have : ¬ (p.a.length : Int) = p.b.length := by simpa using hb
  exact Fu (by omega)
 ·have : (p.a.length : Int) = p.b.length := by simpa using hb
  omega
 ·refine Kl (k := k) λ he => ?_
  simp [he] at hc
 ·by_cases he : i = k
  ·subst he
   simpa using hc
  ·exact q3 i (by omega)
 ·exact Fw q1 (by omega) q3
theorem ok27 : AL Try.prog 27 (C27.spec d27) := JC C27 A27 [] [] Try.func27 (λ _ => by kernel_rfl) (λ _ => AH) (λ p h => p27 p h.1 h.2) (λ _ => KF rfl rfl) _
structure PSpan where
 a : List Span
 b : List Span
def A37 (p : PSpan) : Ann := { ann 26 [] with loops := λ id => if id = 4 then some [{ α := Nat, dflt := 0, T := λ k => ⟨[(0, .d (DV p.a)), (1, .d (DV p.b)), (5, .int k)], []⟩, inv := λ k => p.a.length = p.b.length /\ k <= p.a.length /\ ∀ i, i < k -> gD p.a i = gD p.b i, meas := λ k => p.a.length - k }] else none }
def C37 : Ctr := { α := PSpan, xs := λ p => [.d (DV p.a), .d (DV p.b)], L := λ _ => [], val := λ p => .bool (decide (p.a = p.b)), keep := λ _ => [], pre := λ p => [p.a.length < 4611686018427387904, p.b.length < 4611686018427387904] }
def d37 : List AVal -> Heap -> Option (PSpan × List (Nat × Nat) × List Nat)
 | [.d (.list _ n g _), .d (.list _ m h _)], _ => some (⟨AC n λ i => HH (g i), AC m λ i => HH (h i)⟩, [], [])
 | _, _ => none
def V37 (p : PSpan) : Prop := BM Try.prog (A37 p) Try.f37 (AJ Try.f37) (C37.xs p) (AE []) (C37.val p) [] [] []
theorem vc37 (p : PSpan) : (V37 p) = (bif (↑p.a.length : Int) != (↑p.b.length : Int) then decide (p.a = p.b) = false else (∃ (a : Nat), (p.a.length = p.a.length /\ (∀ (i : Nat), i < p.a.length -> (gD p.a i).lo = (gD p.a
 i).lo /\ (gD p.a i).hi = (gD p.a i).hi) /\ p.b.length = p.b.length /\ (∀ (i : Nat), i < p.b.length -> (gD p.b i).lo = (gD p.b i).lo /\ (gD p.b i).hi = (gD p.b i).hi) /\ (↑a : Int) = 0) /\ p.a.length = p.b.length /\ a <=
 p.a.length /\ ∀ (i : Nat), i < a -> gD p.a i = gD p.b i) /\ ∀ (a : Nat), (p.a.length = p.b.length /\ a <= p.a.length /\ ∀ (i : Nat), i < a -> gD p.a i = gD p.b i) -> bif decide ((↑a : Int) < (↑p.a.length : Int)) then ((0 <= (↑a :
 Int) /\ (↑a : Int) < (↑p.a.length : Int)) /\ 0 <= (↑a : Int) /\ (↑a : Int) < (↑p.b.length : Int)) /\ bif !((gD p.a a).lo == (gD p.b a).lo && ((gD p.a a).hi == (gD p.b a).hi && true)) then decide (p.a = p.b) = false else ∃
 (a_2 : Nat), (p.a.length = p.a.length /\ (∀ (i : Nat), i < p.a.length -> (gD p.a i).lo = (gD p.a i).lo /\ (gD p.a i).hi = (gD p.a i).hi) /\ p.b.length = p.b.length /\ (∀ (i : Nat), i < p.b.length -> (gD p.b i).lo = (gD p.b
 i).lo /\ (gD p.b i).hi = (gD p.b i).hi) /\ (↑a_2 : Int) = IntKind.i64.wrap ((↑a : Int) + 1)) /\ (p.a.length = p.b.length /\ a_2 <= p.a.length /\ ∀ (i : Nat), i < a_2 -> gD p.a i = gD p.b i) /\ p.a.length - a_2 < p.a.length - a
 else decide (p.a = p.b) = true) := by kernel_rfl
theorem p37 (p : PSpan) (h1 : p.a.length < 4611686018427387904) (h2 : p.b.length < 4611686018427387904) : V37 p := by
 rw [vc37]; simp only [CC, eq_self, implies_true, forall_const]
 refine ⟨λ hb => ?_, λ hb => ⟨⟨0, rfl, ?_, Nat.zero_le _, λ i hi => by omega⟩, λ k ⟨q1, q2, q3⟩ => ⟨λ hlt => ⟨⟨⟨by omega, hlt⟩, by omega, by omega⟩, λ hc => ?_, λ hc => ⟨k + 1, (BB (by omega)).symm, ⟨q1, by omega, λ i hi => ?_⟩, by omega⟩⟩, λ hge => ?_⟩⟩⟩
 ·have : ¬ (p.a.length : Int) = p.b.length := by simpa using hb
  exact Fu (by omega)
 ·have : (p.a.length : Int) = p.b.length := by simpa using hb
  omega
 ·refine Kl (k := k) λ he => ?_
  simp [he] at hc
 ·by_cases he : i = k
  ·subst he
   cases hx : gD p.a i; cases hy : gD p.b i; simp [hx, hy] at hc ⊢; exact hc
  ·exact q3 i (by omega)
 ·exact Fw q1 (by omega) q3
theorem Zi : AL Try.prog 37 (C37.spec d37) := JC C37 A37 [] [] Try.func37 (λ _ => by kernel_rfl) (λ _ => AH) (λ p h => p37 p h.1 h.2) (λ _ => KF rfl rfl) _
def C51 : Ctr := { α := List Span, xs := λ l => [.d (DV l)], L := λ _ => [], val := λ l => .d (DV l), keep := λ _ => [], pre := λ l => [l.length <= 1000000] }
def Yy : List AVal -> Heap -> Option (List Span × List (Nat × Nat) × List Nat)
 | [.d (.list _ n g _)], _ => some (AC n λ i => HH (g i), [], [])
 | _, _ => none
def V51 (l : List Span) : Prop := BM Try.prog (ann 7 []) Try.f51 (AJ Try.f51) (C51.xs l) (AE []) (C51.val l) [] [] []
theorem Zr (l : List Span) : (V51 l) = (((True /\ (0 < 0 -> 0 = 2)) /\ (True /\ (0 < l.length -> 2 = 2)) /\ (false = true -> 0 < l.length) /\ 0 + l.length <= 9223372036854775807 /\ (0 + l.length) * 16 <= 140737488355328) /\
 l.length = 0 + l.length /\ ∀ (i : Nat), i < l.length -> (gD l i).lo = (gD l (i - 0)).lo /\ (gD l i).hi = (gD l (i - 0)).hi) := by kernel_rfl
theorem p51 (l : List Span) (h : l.length <= 1000000) : V51 l := by
 rw [Zr]; simp only [CC, eq_self, implies_true, forall_const]
 simp; omega
theorem Ui : AL Try.prog 51 (C51.spec Yy) := JC C51 (λ _ => ann 7 []) [] [] Try.func51 (λ _ => by kernel_rfl) (λ _ => AH) (λ l h => p51 l h) (λ _ => KF rfl rfl) _
def C52 : Ctr := { α := List Reach, xs := λ l => [.d (BS l)], L := λ _ => [], val := λ l => .d (BS l), keep := λ _ => [], pre := λ l => [l.length <= 1000000] }
def Zd : List AVal -> Heap -> Option (List Reach × List (Nat × Nat) × List Nat)
 | [.d (.list _ n g _)], _ => some (AC n λ i => ET (g i), [], [])
 | _, _ => none
def V52 (l : List Reach) : Prop := BM Try.prog (ann 7 []) Try.f52 (AJ Try.f52) (C52.xs l) (AE []) (C52.val l) [] [] []
theorem vc52 (l : List Reach) : (V52 l) = (((True /\ (0 < 0 -> 0 = 4)) /\ (True /\ (0 < l.length -> 4 = 4)) /\ (false = true -> 0 < l.length) /\ 0 + l.length <= 9223372036854775807 /\ (0 + l.length) * 32 <= 140737488355328) /\
 l.length = 0 + l.length /\ ∀ (i : Nat), i < l.length -> (gD l i).fr = (gD l (i - 0)).fr /\ (gD l i).to = (gD l (i - 0)).to /\ (gD l i).sp.lo = (gD l (i - 0)).sp.lo /\ (gD l i).sp.hi = (gD l (i - 0)).sp.hi) := by kernel_rfl
theorem p52 (l : List Reach) (h : l.length <= 1000000) : V52 l := by
 rw [vc52]; simp only [CC, eq_self, implies_true, forall_const]
 simp; omega
theorem ok52 : AL Try.prog 52 (C52.spec Zd) := JC C52 (λ _ => ann 7 []) [] [] Try.func52 (λ _ => by kernel_rfl) (λ _ => AH) (λ l h => p52 l h) (λ _ => KF rfl rfl) _
end Go.Bal
