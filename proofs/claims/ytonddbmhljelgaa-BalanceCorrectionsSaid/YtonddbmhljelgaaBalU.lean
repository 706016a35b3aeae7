/- The statements' kit: Same, Copy; nets copied. Printed by genkit.py. -/
import Derived.Test.YtonddbmhljelgaaBalS
set_option linter.unusedVariables false
set_option linter.unusedSimpArgs false
namespace Go.Bal
open Go Go.Sym Go.Proofs
theorem same_yes {α : Type} [Inhabited α] [DecidableEq α] {a b : List α} (h : a.length = b.length) {k : Nat} (hk : a.length ≤ k) (he : ∀ i, i < k → gD a i = gD b i) : a = b := gD_ext h fun i hi => he i (by omega)
theorem same_no {α : Type} [Inhabited α] [DecidableEq α] {a b : List α} {k : Nat} (he : gD a k ≠ gD b k) : ¬ a = b := fun h => he (by rw [h])
theorem same_len {α : Type} [DecidableEq α] {a b : List α} (h : a.length ≠ b.length) : ¬ a = b := fun e => h (by rw [e])
theorem reach_eq {x y : Reach} (h : x.fr = y.fr ∧ x.to = y.to ∧ x.sp.lo = y.sp.lo ∧ x.sp.hi = y.sp.hi) : x = y := by
  obtain ⟨a, b, ⟨c, d⟩⟩ := x
  obtain ⟨a', b', ⟨c', d'⟩⟩ := y
  simpa using h
structure PInt where
  a : List Int
  b : List Int
def A27 (p : PInt) : Ann := { ann 26 [] with loops := fun id => if id = 4 then some [{ α := Nat, dflt := 0, T := fun k => ⟨[(0, .d (eIntsL p.a)), (1, .d (eIntsL p.b)), (5, .int k)], []⟩, inv := fun k => p.a.length = p.b.length ∧ k ≤ p.a.length ∧ ∀ i, i < k → gD p.a i = gD p.b i, meas := fun k => p.a.length - k }] else none }
def C27 : Ctr := { α := PInt, xs := fun p => [.d (eIntsL p.a), .d (eIntsL p.b)], L := fun _ => [], val := fun p => .bool (decide (p.a = p.b)), keep := fun _ => [], pre := fun p => [p.a.length < 4611686018427387904, p.b.length < 4611686018427387904] }
def d27 : List AVal → Heap → Option (PInt × List (Nat × Nat) × List Nat)
  | [.d (.list _ n g _), .d (.list _ m h _)], _ => some (⟨rng n fun i => dInt (g i), rng m fun i => dInt (h i)⟩, [], [])
  | _, _ => none
def V27 (p : PInt) : Prop := fnVC Try.prog (A27 p) Try.f27 (bodyOf Try.f27) (C27.xs p) (heapOf []) (C27.val p) [] [] []
theorem vc27 (p : PInt) : (V27 p) = (bif (↑p.a.length : Int) != (↑p.b.length : Int) then decide (p.a = p.b) = false else (∃ (a : Nat), (p.a.length = p.a.length ∧ (∀ (i : Nat), i < p.a.length → gD p.a i = gD p.a i) ∧
 p.b.length = p.b.length ∧ (∀ (i : Nat), i < p.b.length → gD p.b i = gD p.b i) ∧ (↑a : Int) = 0) ∧ p.a.length = p.b.length ∧ a ≤ p.a.length ∧ ∀ (i : Nat), i < a → gD p.a i = gD p.b i) ∧ ∀ (a : Nat), (p.a.length =
 p.b.length ∧ a ≤ p.a.length ∧ ∀ (i : Nat), i < a → gD p.a i = gD p.b i) → bif decide ((↑a : Int) < (↑p.a.length : Int)) then ((0 ≤ (↑a : Int) ∧ (↑a : Int) < (↑p.a.length : Int)) ∧ 0 ≤ (↑a : Int) ∧ (↑a : Int) <
 (↑p.b.length : Int)) ∧ bif gD p.a a != gD p.b a then decide (p.a = p.b) = false else ∃ (a_2 : Nat), (p.a.length = p.a.length ∧ (∀ (i : Nat), i < p.a.length → gD p.a i = gD p.a i) ∧ p.b.length = p.b.length ∧ (∀ (i : Nat),
 i < p.b.length → gD p.b i = gD p.b i) ∧ (↑a_2 : Int) = IntKind.i64.wrap ((↑a : Int) + 1)) ∧ (p.a.length = p.b.length ∧ a_2 ≤ p.a.length ∧ ∀ (i : Nat), i < a_2 → gD p.a i = gD p.b i) ∧ p.a.length - a_2 < p.a.length - a
 else decide (p.a = p.b) = true) := by kernel_rfl
theorem p27 (p : PInt) (h1 : p.a.length < 4611686018427387904) (h2 : p.b.length < 4611686018427387904) : V27 p := by
  rw [vc27]; simp only [condP, eq_self, implies_true, and_self, true_and, and_true, true_implies, forall_const, decide_eq_true_eq, decide_eq_false_iff_not, Int.toNat_natCast, dSpan_eSpan, dReach_eReach, dWay_eWay, dStep_eStep, dFar_eFar, dInt_eInt, Nat.zero_add, Int.zero_sub, Nat.le_eq, Nat.succ_eq_add_one, Nat.add_one_le_iff, Bool.not_eq_true', Bool.not_eq_false', rng_length, dSpan_mk, dReach_mk, dWay_mk, dStep_mk, dFar_mk, rng_getD]
  refine ⟨fun hb => ?_, fun hb => ⟨⟨0, rfl, ?_, Nat.zero_le _, fun i hi => by omega⟩, fun k ⟨q1, q2, q3⟩ => ⟨fun hlt => ⟨⟨⟨by omega, hlt⟩, by omega, by omega⟩, fun hc => ?_, fun hc => ⟨k + 1, (wsucc (by omega)).symm, ⟨q1, by omega, fun i hi => ?_⟩, by omega⟩⟩, fun hge => ?_⟩⟩⟩
  · have : ¬ (p.a.length : Int) = p.b.length := by simpa using hb
    exact same_len (by omega)
  · have : (p.a.length : Int) = p.b.length := by simpa using hb
    omega
  · refine same_no (k := k) fun he => ?_
    simp [he] at hc
  · by_cases he : i = k
    · subst he
      simpa using hc
    · exact q3 i (by omega)
  · exact same_yes q1 (by omega) q3
theorem ok27 : SpecOk Try.prog 27 (C27.spec d27) := okC C27 A27 [] [] Try.func27 (fun _ => by kernel_rfl) (fun _ => gok_nil) (fun p h => p27 p h.1 h.2) (fun _ => noI rfl rfl) _
def C16 : Ctr := { α := List Int, xs := fun l => [.d (eIntsL l)], L := fun _ => [], val := fun l => .d (eIntsL l), keep := fun _ => [], pre := fun l => [l.length ≤ 1000000] }
def d16 : List AVal → Heap → Option (List Int × List (Nat × Nat) × List Nat)
  | [.d (.list _ n g _)], _ => some (rng n fun i => dInt (g i), [], [])
  | _, _ => none
def V16 (l : List Int) : Prop := fnVC Try.prog (ann 7 []) Try.f16 (bodyOf Try.f16) (C16.xs l) (heapOf []) (C16.val l) [] [] []
theorem vc16 (l : List Int) : (V16 l) = (((True ∧ (0 < 0 → 0 = 1)) ∧ (True ∧ (0 < l.length → 1 = 1)) ∧ (false = true → 0 < l.length) ∧ 0 + l.length ≤ 9223372036854775807 ∧ (0 + l.length) * 8 ≤ 140737488355328) ∧ l.length
 = 0 + l.length ∧ ∀ (i : Nat), i < l.length → gD l i = gD l (i - 0)) := by kernel_rfl
theorem p16 (l : List Int) (h : l.length ≤ 1000000) : V16 l := by
  rw [vc16]; simp only [condP, eq_self, implies_true, and_self, true_and, and_true, true_implies, forall_const, decide_eq_true_eq, decide_eq_false_iff_not, Int.toNat_natCast, dSpan_eSpan, dReach_eReach, dWay_eWay, dStep_eStep, dFar_eFar, dInt_eInt, Nat.zero_add, Int.zero_sub, Nat.le_eq, Nat.succ_eq_add_one, Nat.add_one_le_iff, Bool.not_eq_true', Bool.not_eq_false', rng_length, dSpan_mk, dReach_mk, dWay_mk, dStep_mk, dFar_mk, rng_getD]
  simp; omega
theorem ok16 : SpecOk Try.prog 16 (C16.spec d16) := okC C16 (fun _ => ann 7 []) [] [] Try.func16 (fun _ => by kernel_rfl) (fun _ => gok_nil) (fun l h => p16 l h) (fun _ => noI rfl rfl) _
structure PSpan where
  a : List Span
  b : List Span
def A37 (p : PSpan) : Ann := { ann 26 [] with loops := fun id => if id = 4 then some [{ α := Nat, dflt := 0, T := fun k => ⟨[(0, .d (eSpansL p.a)), (1, .d (eSpansL p.b)), (5, .int k)], []⟩, inv := fun k => p.a.length = p.b.length ∧ k ≤ p.a.length ∧ ∀ i, i < k → gD p.a i = gD p.b i, meas := fun k => p.a.length - k }] else none }
def C37 : Ctr := { α := PSpan, xs := fun p => [.d (eSpansL p.a), .d (eSpansL p.b)], L := fun _ => [], val := fun p => .bool (decide (p.a = p.b)), keep := fun _ => [], pre := fun p => [p.a.length < 4611686018427387904, p.b.length < 4611686018427387904] }
def d37 : List AVal → Heap → Option (PSpan × List (Nat × Nat) × List Nat)
  | [.d (.list _ n g _), .d (.list _ m h _)], _ => some (⟨rng n fun i => dSpan (g i), rng m fun i => dSpan (h i)⟩, [], [])
  | _, _ => none
def V37 (p : PSpan) : Prop := fnVC Try.prog (A37 p) Try.f37 (bodyOf Try.f37) (C37.xs p) (heapOf []) (C37.val p) [] [] []
theorem vc37 (p : PSpan) : (V37 p) = (bif (↑p.a.length : Int) != (↑p.b.length : Int) then decide (p.a = p.b) = false else (∃ (a : Nat), (p.a.length = p.a.length ∧ (∀ (i : Nat), i < p.a.length → (gD p.a i).lo = (gD p.a
 i).lo ∧ (gD p.a i).hi = (gD p.a i).hi) ∧ p.b.length = p.b.length ∧ (∀ (i : Nat), i < p.b.length → (gD p.b i).lo = (gD p.b i).lo ∧ (gD p.b i).hi = (gD p.b i).hi) ∧ (↑a : Int) = 0) ∧ p.a.length = p.b.length ∧ a ≤
 p.a.length ∧ ∀ (i : Nat), i < a → gD p.a i = gD p.b i) ∧ ∀ (a : Nat), (p.a.length = p.b.length ∧ a ≤ p.a.length ∧ ∀ (i : Nat), i < a → gD p.a i = gD p.b i) → bif decide ((↑a : Int) < (↑p.a.length : Int)) then ((0 ≤ (↑a :
 Int) ∧ (↑a : Int) < (↑p.a.length : Int)) ∧ 0 ≤ (↑a : Int) ∧ (↑a : Int) < (↑p.b.length : Int)) ∧ bif !((gD p.a a).lo == (gD p.b a).lo && ((gD p.a a).hi == (gD p.b a).hi && true)) then decide (p.a = p.b) = false else ∃
 (a_2 : Nat), (p.a.length = p.a.length ∧ (∀ (i : Nat), i < p.a.length → (gD p.a i).lo = (gD p.a i).lo ∧ (gD p.a i).hi = (gD p.a i).hi) ∧ p.b.length = p.b.length ∧ (∀ (i : Nat), i < p.b.length → (gD p.b i).lo = (gD p.b
 i).lo ∧ (gD p.b i).hi = (gD p.b i).hi) ∧ (↑a_2 : Int) = IntKind.i64.wrap ((↑a : Int) + 1)) ∧ (p.a.length = p.b.length ∧ a_2 ≤ p.a.length ∧ ∀ (i : Nat), i < a_2 → gD p.a i = gD p.b i) ∧ p.a.length - a_2 < p.a.length - a
 else decide (p.a = p.b) = true) := by kernel_rfl
theorem p37 (p : PSpan) (h1 : p.a.length < 4611686018427387904) (h2 : p.b.length < 4611686018427387904) : V37 p := by
  rw [vc37]; simp only [condP, eq_self, implies_true, and_self, true_and, and_true, true_implies, forall_const, decide_eq_true_eq, decide_eq_false_iff_not, Int.toNat_natCast, dSpan_eSpan, dReach_eReach, dWay_eWay, dStep_eStep, dFar_eFar, dInt_eInt, Nat.zero_add, Int.zero_sub, Nat.le_eq, Nat.succ_eq_add_one, Nat.add_one_le_iff, Bool.not_eq_true', Bool.not_eq_false', rng_length, dSpan_mk, dReach_mk, dWay_mk, dStep_mk, dFar_mk, rng_getD]
  refine ⟨fun hb => ?_, fun hb => ⟨⟨0, rfl, ?_, Nat.zero_le _, fun i hi => by omega⟩, fun k ⟨q1, q2, q3⟩ => ⟨fun hlt => ⟨⟨⟨by omega, hlt⟩, by omega, by omega⟩, fun hc => ?_, fun hc => ⟨k + 1, (wsucc (by omega)).symm, ⟨q1, by omega, fun i hi => ?_⟩, by omega⟩⟩, fun hge => ?_⟩⟩⟩
  · have : ¬ (p.a.length : Int) = p.b.length := by simpa using hb
    exact same_len (by omega)
  · have : (p.a.length : Int) = p.b.length := by simpa using hb
    omega
  · refine same_no (k := k) fun he => ?_
    simp [he] at hc
  · by_cases he : i = k
    · subst he
      cases hx : gD p.a i; cases hy : gD p.b i; simp [hx, hy] at hc ⊢; exact hc
    · exact q3 i (by omega)
  · exact same_yes q1 (by omega) q3
theorem ok37 : SpecOk Try.prog 37 (C37.spec d37) := okC C37 A37 [] [] Try.func37 (fun _ => by kernel_rfl) (fun _ => gok_nil) (fun p h => p37 p h.1 h.2) (fun _ => noI rfl rfl) _
def C51 : Ctr := { α := List Span, xs := fun l => [.d (eSpansL l)], L := fun _ => [], val := fun l => .d (eSpansL l), keep := fun _ => [], pre := fun l => [l.length ≤ 1000000] }
def d51 : List AVal → Heap → Option (List Span × List (Nat × Nat) × List Nat)
  | [.d (.list _ n g _)], _ => some (rng n fun i => dSpan (g i), [], [])
  | _, _ => none
def V51 (l : List Span) : Prop := fnVC Try.prog (ann 7 []) Try.f51 (bodyOf Try.f51) (C51.xs l) (heapOf []) (C51.val l) [] [] []
theorem vc51 (l : List Span) : (V51 l) = (((True ∧ (0 < 0 → 0 = 2)) ∧ (True ∧ (0 < l.length → 2 = 2)) ∧ (false = true → 0 < l.length) ∧ 0 + l.length ≤ 9223372036854775807 ∧ (0 + l.length) * 16 ≤ 140737488355328) ∧
 l.length = 0 + l.length ∧ ∀ (i : Nat), i < l.length → (gD l i).lo = (gD l (i - 0)).lo ∧ (gD l i).hi = (gD l (i - 0)).hi) := by kernel_rfl
theorem p51 (l : List Span) (h : l.length ≤ 1000000) : V51 l := by
  rw [vc51]; simp only [condP, eq_self, implies_true, and_self, true_and, and_true, true_implies, forall_const, decide_eq_true_eq, decide_eq_false_iff_not, Int.toNat_natCast, dSpan_eSpan, dReach_eReach, dWay_eWay, dStep_eStep, dFar_eFar, dInt_eInt, Nat.zero_add, Int.zero_sub, Nat.le_eq, Nat.succ_eq_add_one, Nat.add_one_le_iff, Bool.not_eq_true', Bool.not_eq_false', rng_length, dSpan_mk, dReach_mk, dWay_mk, dStep_mk, dFar_mk, rng_getD]
  simp; omega
theorem ok51 : SpecOk Try.prog 51 (C51.spec d51) := okC C51 (fun _ => ann 7 []) [] [] Try.func51 (fun _ => by kernel_rfl) (fun _ => gok_nil) (fun l h => p51 l h) (fun _ => noI rfl rfl) _
structure PReach where
  a : List Reach
  b : List Reach
def A72 (p : PReach) : Ann := { ann 26 [] with loops := fun id => if id = 4 then some [{ α := Nat, dflt := 0, T := fun k => ⟨[(0, .d (eReachesL p.a)), (1, .d (eReachesL p.b)), (5, .int k)], []⟩, inv := fun k => p.a.length = p.b.length ∧ k ≤ p.a.length ∧ ∀ i, i < k → gD p.a i = gD p.b i, meas := fun k => p.a.length - k }] else none }
def C72 : Ctr := { α := PReach, xs := fun p => [.d (eReachesL p.a), .d (eReachesL p.b)], L := fun _ => [], val := fun p => .bool (decide (p.a = p.b)), keep := fun _ => [], pre := fun p => [p.a.length < 4611686018427387904, p.b.length < 4611686018427387904] }
def d72 : List AVal → Heap → Option (PReach × List (Nat × Nat) × List Nat)
  | [.d (.list _ n g _), .d (.list _ m h _)], _ => some (⟨rng n fun i => dReach (g i), rng m fun i => dReach (h i)⟩, [], [])
  | _, _ => none
def V72 (p : PReach) : Prop := fnVC Try.prog (A72 p) Try.f72 (bodyOf Try.f72) (C72.xs p) (heapOf []) (C72.val p) [] [] []
theorem vc72 (p : PReach) : (V72 p) = (bif (↑p.a.length : Int) != (↑p.b.length : Int) then decide (p.a = p.b) = false else (∃ (a : Nat), (p.a.length = p.a.length ∧ (∀ (i : Nat), i < p.a.length → (gD p.a i).fr = (gD p.a
 i).fr ∧ (gD p.a i).to = (gD p.a i).to ∧ (gD p.a i).sp.lo = (gD p.a i).sp.lo ∧ (gD p.a i).sp.hi = (gD p.a i).sp.hi) ∧ p.b.length = p.b.length ∧ (∀ (i : Nat), i < p.b.length → (gD p.b i).fr = (gD p.b i).fr ∧ (gD p.b i).to
 = (gD p.b i).to ∧ (gD p.b i).sp.lo = (gD p.b i).sp.lo ∧ (gD p.b i).sp.hi = (gD p.b i).sp.hi) ∧ (↑a : Int) = 0) ∧ p.a.length = p.b.length ∧ a ≤ p.a.length ∧ ∀ (i : Nat), i < a → gD p.a i = gD p.b i) ∧ ∀ (a : Nat),
 (p.a.length = p.b.length ∧ a ≤ p.a.length ∧ ∀ (i : Nat), i < a → gD p.a i = gD p.b i) → bif decide ((↑a : Int) < (↑p.a.length : Int)) then ((0 ≤ (↑a : Int) ∧ (↑a : Int) < (↑p.a.length : Int)) ∧ 0 ≤ (↑a : Int) ∧ (↑a :
 Int) < (↑p.b.length : Int)) ∧ bif !((gD p.a a).fr == (gD p.b a).fr && ((gD p.a a).to == (gD p.b a).to && ((gD p.a a).sp.lo == (gD p.b a).sp.lo && ((gD p.a a).sp.hi == (gD p.b a).sp.hi && true) && true))) then decide (p.a
 = p.b) = false else ∃ (a_2 : Nat), (p.a.length = p.a.length ∧ (∀ (i : Nat), i < p.a.length → (gD p.a i).fr = (gD p.a i).fr ∧ (gD p.a i).to = (gD p.a i).to ∧ (gD p.a i).sp.lo = (gD p.a i).sp.lo ∧ (gD p.a i).sp.hi = (gD
 p.a i).sp.hi) ∧ p.b.length = p.b.length ∧ (∀ (i : Nat), i < p.b.length → (gD p.b i).fr = (gD p.b i).fr ∧ (gD p.b i).to = (gD p.b i).to ∧ (gD p.b i).sp.lo = (gD p.b i).sp.lo ∧ (gD p.b i).sp.hi = (gD p.b i).sp.hi) ∧ (↑a_2
 : Int) = IntKind.i64.wrap ((↑a : Int) + 1)) ∧ (p.a.length = p.b.length ∧ a_2 ≤ p.a.length ∧ ∀ (i : Nat), i < a_2 → gD p.a i = gD p.b i) ∧ p.a.length - a_2 < p.a.length - a else decide (p.a = p.b) = true) := by kernel_rfl
theorem p72 (p : PReach) (h1 : p.a.length < 4611686018427387904) (h2 : p.b.length < 4611686018427387904) : V72 p := by
  rw [vc72]; simp only [condP, eq_self, implies_true, and_self, true_and, and_true, true_implies, forall_const, decide_eq_true_eq, decide_eq_false_iff_not, Int.toNat_natCast, dSpan_eSpan, dReach_eReach, dWay_eWay, dStep_eStep, dFar_eFar, dInt_eInt, Nat.zero_add, Int.zero_sub, Nat.le_eq, Nat.succ_eq_add_one, Nat.add_one_le_iff, Bool.not_eq_true', Bool.not_eq_false', rng_length, dSpan_mk, dReach_mk, dWay_mk, dStep_mk, dFar_mk, rng_getD]
  refine ⟨fun hb => ?_, fun hb => ⟨⟨0, rfl, ?_, Nat.zero_le _, fun i hi => by omega⟩, fun k ⟨q1, q2, q3⟩ => ⟨fun hlt => ⟨⟨⟨by omega, hlt⟩, by omega, by omega⟩, fun hc => ?_, fun hc => ⟨k + 1, (wsucc (by omega)).symm, ⟨q1, by omega, fun i hi => ?_⟩, by omega⟩⟩, fun hge => ?_⟩⟩⟩
  · have : ¬ (p.a.length : Int) = p.b.length := by simpa using hb
    exact same_len (by omega)
  · have : (p.a.length : Int) = p.b.length := by simpa using hb
    omega
  · refine same_no (k := k) fun he => ?_
    simp [he] at hc
  · by_cases he : i = k
    · subst he
      exact reach_eq (by simpa using hc)
    · exact q3 i (by omega)
  · exact same_yes q1 (by omega) q3
theorem ok72 : SpecOk Try.prog 72 (C72.spec d72) := okC C72 A72 [] [] Try.func72 (fun _ => by kernel_rfl) (fun _ => gok_nil) (fun p h => p72 p h.1 h.2) (fun _ => noI rfl rfl) _
def C52 : Ctr := { α := List Reach, xs := fun l => [.d (eReachesL l)], L := fun _ => [], val := fun l => .d (eReachesL l), keep := fun _ => [], pre := fun l => [l.length ≤ 1000000] }
def d52 : List AVal → Heap → Option (List Reach × List (Nat × Nat) × List Nat)
  | [.d (.list _ n g _)], _ => some (rng n fun i => dReach (g i), [], [])
  | _, _ => none
def V52 (l : List Reach) : Prop := fnVC Try.prog (ann 7 []) Try.f52 (bodyOf Try.f52) (C52.xs l) (heapOf []) (C52.val l) [] [] []
theorem vc52 (l : List Reach) : (V52 l) = (((True ∧ (0 < 0 → 0 = 4)) ∧ (True ∧ (0 < l.length → 4 = 4)) ∧ (false = true → 0 < l.length) ∧ 0 + l.length ≤ 9223372036854775807 ∧ (0 + l.length) * 32 ≤ 140737488355328) ∧
 l.length = 0 + l.length ∧ ∀ (i : Nat), i < l.length → (gD l i).fr = (gD l (i - 0)).fr ∧ (gD l i).to = (gD l (i - 0)).to ∧ (gD l i).sp.lo = (gD l (i - 0)).sp.lo ∧ (gD l i).sp.hi = (gD l (i - 0)).sp.hi) := by kernel_rfl
theorem p52 (l : List Reach) (h : l.length ≤ 1000000) : V52 l := by
  rw [vc52]; simp only [condP, eq_self, implies_true, and_self, true_and, and_true, true_implies, forall_const, decide_eq_true_eq, decide_eq_false_iff_not, Int.toNat_natCast, dSpan_eSpan, dReach_eReach, dWay_eWay, dStep_eStep, dFar_eFar, dInt_eInt, Nat.zero_add, Int.zero_sub, Nat.le_eq, Nat.succ_eq_add_one, Nat.add_one_le_iff, Bool.not_eq_true', Bool.not_eq_false', rng_length, dSpan_mk, dReach_mk, dWay_mk, dStep_mk, dFar_mk, rng_getD]
  simp; omega
theorem ok52 : SpecOk Try.prog 52 (C52.spec d52) := okC C52 (fun _ => ann 7 []) [] [] Try.func52 (fun _ => by kernel_rfl) (fun _ => gok_nil) (fun l h => p52 l h) (fun _ => noI rfl rfl) _
end Go.Bal
