/- The statements' kit: Same, Copy; nets copied. Printed by genkit.py. -/
import Derived.Test.YtonddbmhljelgaaBalS
set_option linter.unusedVariables false
set_option linter.unusedSimpArgs false
namespace Go.Bal
open Go Go.Sym Go.Proofs
theorem same_yes {α : Type} [Inhabited α] [DecidableEq α] {a b : List α} (h : a.length = b.length) {k : Nat} (hk : a.length ≤ k) (he : ∀ i, i < k → gD a i = gD b i) : a = b := gD_ext h fun i hi => he i (by omega)
theorem same_no {α : Type} [Inhabited α] [DecidableEq α] {a b : List α} {k : Nat} (he : gD a k ≠ gD b k) : ¬ a = b := fun h => he (by rw [h])
theorem same_len {α : Type} [DecidableEq α] {a b : List α} (h : a.length ≠ b.length) : ¬ a = b := fun e => h (by rw [e])
structure PInt where
  a : List Int
  b : List Int
def A27 (p : PInt) : Ann := { ann 26 [] with loops := fun id => if id = 4 then some [{ α := Nat, dflt := 0, T := fun k => ⟨[(0, .d (eIntsL p.a)), (1, .d (eIntsL p.b)), (5, .int k)], []⟩, inv := fun k => p.a.length = p.b.length ∧ k ≤ p.a.length ∧ ∀ i, i < k → gD p.a i = gD p.b i, meas := fun k => p.a.length - k }] else none }
def C27 : Ctr := { α := PInt, xs := fun p => [.d (eIntsL p.a), .d (eIntsL p.b)], L := fun _ => [], val := fun p => .bool (decide (p.a = p.b)), keep := fun _ => [], pre := fun p => [p.a.length < 4611686018427387904, p.b.length < 4611686018427387904] }
def d27 : List AVal → Heap → Option (PInt × List (Nat × Nat) × List Nat)
  | [.d (.list _ n g _), .d (.list _ m h _)], _ => some (⟨rng n fun i => dInt (g i), rng m fun i => dInt (h i)⟩, [], [])
  | _, _ => none
def V27 (p : PInt) : Prop := fnVC Try.prog (A27 p) Try.f27 (bodyOf Try.f27) (C27.xs p) (heapOf []) (C27.val p) [] [] []
theorem vc27 (p : PInt) : (V27 p) = (bif (↑p.a.length : Int) != (↑p.b.length : Int) then decide (p.a = p.b) = false else (∃ (a : Nat), (p.a.length = p.a.length ∧ (∀ (i : Nat), i < p.a.length → gD p.a i = gD p.a i) ∧
 p.b.length = p.b.length ∧ (∀ (i : Nat), i < p.b.length → gD p.b i = gD p.b i) ∧ (↑a : Int) = 0) ∧ p.a.length = p.b.length ∧ a ≤ p.a.length ∧ ∀ (i : Nat), i < a → gD p.a i = gD p.b i) ∧ ∀ (a : Nat), (p.a.length =
 p.b.length ∧ a ≤ p.a.length ∧ ∀ (i : Nat), i < a → gD p.a i = gD p.b i) → bif decide ((↑a : Int) < (↑p.a.length : Int)) then ((0 ≤ (↑a : Int) ∧ (↑a : Int) < (↑p.a.length : Int)) ∧ 0 ≤ (↑a : Int) ∧ (↑a : Int) <
 (↑p.b.length : Int)) ∧ bif gD p.a a != gD p.b a then decide (p.a = p.b) = false else ∃ (a_2 : Nat), (p.a.length = p.a.length ∧ (∀ (i : Nat), i < p.a.length → gD p.a i = gD p.a i) ∧ p.b.length = p.b.length ∧ (∀ (i : Nat),
 i < p.b.length → gD p.b i = gD p.b i) ∧ (↑a_2 : Int) = IntKind.i64.wrap ((↑a : Int) + 1)) ∧ (p.a.length = p.b.length ∧ a_2 ≤ p.a.length ∧ ∀ (i : Nat), i < a_2 → gD p.a i = gD p.b i) ∧ p.a.length - a_2 < p.a.length - a
 else decide (p.a = p.b) = true) := by kernel_rfl
theorem p27 (p : PInt) (h1 : p.a.length < 4611686018427387904) (h2 : p.b.length < 4611686018427387904) : V27 p := by
  rw [vc27]; simp only [condP, eq_self, implies_true, and_self, true_and, and_true, true_implies, forall_const, decide_eq_true_eq, decide_eq_false_iff_not, Int.toNat_natCast, dSpan_eSpan, dReach_eReach, dWay_eWay, dStep_eStep, dFar_eFar, dInt_eInt, Nat.zero_add, Int.zero_sub, Nat.le_eq, Nat.succ_eq_add_one, Nat.add_one_le_iff, Bool.not_eq_true', Bool.not_eq_false', rng_length, dSpan_mk, dReach_mk, dWay_mk, dStep_mk, dFar_mk, rng_getD]
  refine ⟨fun hb => ?_, fun hb => ⟨⟨0, rfl, ?_, Nat.zero_le _, fun i hi => by omega⟩, fun k ⟨q1, q2, q3⟩ => ⟨fun hlt => ⟨⟨⟨by omega, hlt⟩, by omega, by omega⟩, fun hc => ?_, fun hc => ⟨k + 1, (wsucc (by omega)).symm, ⟨q1, by omega, fun i hi => ?_⟩, by omega⟩⟩, fun hge => ?_⟩⟩⟩
  · have : ¬ (p.a.length : Int) = p.b.length := by simpa using hb
    exact same_len (by omega)
  · have : (p.a.length : Int) = p.b.length := by simpa using hb
    omega
  · refine same_no (k := k) fun he => ?_
    simp [he] at hc
  · by_cases he : i = k
    · subst he
      simpa using hc
    · exact q3 i (by omega)
  · exact same_yes q1 (by omega) q3
theorem ok27 : SpecOk Try.prog 27 (C27.spec d27) := okC C27 A27 [] [] Try.func27 (fun _ => by kernel_rfl) (fun _ => gok_nil) (fun p h => p27 p h.1 h.2) (fun _ => noI rfl rfl) _
structure PSpan where
  a : List Span
  b : List Span
def A37 (p : PSpan) : Ann := { ann 26 [] with loops := fun id => if id = 4 then some [{ α := Nat, dflt := 0, T := fun k => ⟨[(0, .d (eSpansL p.a)), (1, .d (eSpansL p.b)), (5, .int k)], []⟩, inv := fun k => p.a.length = p.b.length ∧ k ≤ p.a.length ∧ ∀ i, i < k → gD p.a i = gD p.b i, meas := fun k => p.a.length - k }] else none }
def C37 : Ctr := { α := PSpan, xs := fun p => [.d (eSpansL p.a), .d (eSpansL p.b)], L := fun _ => [], val := fun p => .bool (decide (p.a = p.b)), keep := fun _ => [], pre := fun p => [p.a.length < 4611686018427387904, p.b.length < 4611686018427387904] }
def d37 : List AVal → Heap → Option (PSpan × List (Nat × Nat) × List Nat)
  | [.d (.list _ n g _), .d (.list _ m h _)], _ => some (⟨rng n fun i => dSpan (g i), rng m fun i => dSpan (h i)⟩, [], [])
  | _, _ => none
def V37 (p : PSpan) : Prop := fnVC Try.prog (A37 p) Try.f37 (bodyOf Try.f37) (C37.xs p) (heapOf []) (C37.val p) [] [] []
theorem vc37 (p : PSpan) : (V37 p) = (bif (↑p.a.length : Int) != (↑p.b.length : Int) then decide (p.a = p.b) = false else (∃ (a : Nat), (p.a.length = p.a.length ∧ (∀ (i : Nat), i < p.a.length → (gD p.a i).lo = (gD p.a
 i).lo ∧ (gD p.a i).hi = (gD p.a i).hi) ∧ p.b.length = p.b.length ∧ (∀ (i : Nat), i < p.b.length → (gD p.b i).lo = (gD p.b i).lo ∧ (gD p.b i).hi = (gD p.b i).hi) ∧ (↑a : Int) = 0) ∧ p.a.length = p.b.length ∧ a ≤
 p.a.length ∧ ∀ (i : Nat), i < a → gD p.a i = gD p.b i) ∧ ∀ (a : Nat), (p.a.length = p.b.length ∧ a ≤ p.a.length ∧ ∀ (i : Nat), i < a → gD p.a i = gD p.b i) → bif decide ((↑a : Int) < (↑p.a.length : Int)) then ((0 ≤ (↑a :
 Int) ∧ (↑a : Int) < (↑p.a.length : Int)) ∧ 0 ≤ (↑a : Int) ∧ (↑a : Int) < (↑p.b.length : Int)) ∧ bif !((gD p.a a).lo == (gD p.b a).lo && ((gD p.a a).hi == (gD p.b a).hi && true)) then decide (p.a = p.b) = false else ∃
 (a_2 : Nat), (p.a.length = p.a.length ∧ (∀ (i : Nat), i < p.a.length → (gD p.a i).lo = (gD p.a i).lo ∧ (gD p.a i).hi = (gD p.a i).hi) ∧ p.b.length = p.b.length ∧ (∀ (i : Nat), i < p.b.length → (gD p.b i).lo = (gD p.b
 i).lo ∧ (gD p.b i).hi = (gD p.b i).hi) ∧ (↑a_2 : Int) = IntKind.i64.wrap ((↑a : Int) + 1)) ∧ (p.a.length = p.b.length ∧ a_2 ≤ p.a.length ∧ ∀ (i : Nat), i < a_2 → gD p.a i = gD p.b i) ∧ p.a.length - a_2 < p.a.length - a
 else decide (p.a = p.b) = true) := by kernel_rfl
theorem p37 (p : PSpan) (h1 : p.a.length < 4611686018427387904) (h2 : p.b.length < 4611686018427387904) : V37 p := by
  rw [vc37]; simp only [condP, eq_self, implies_true, and_self, true_and, and_true, true_implies, forall_const, decide_eq_true_eq, decide_eq_false_iff_not, Int.toNat_natCast, dSpan_eSpan, dReach_eReach, dWay_eWay, dStep_eStep, dFar_eFar, dInt_eInt, Nat.zero_add, Int.zero_sub, Nat.le_eq, Nat.succ_eq_add_one, Nat.add_one_le_iff, Bool.not_eq_true', Bool.not_eq_false', rng_length, dSpan_mk, dReach_mk, dWay_mk, dStep_mk, dFar_mk, rng_getD]
  refine ⟨fun hb => ?_, fun hb => ⟨⟨0, rfl, ?_, Nat.zero_le _, fun i hi => by omega⟩, fun k ⟨q1, q2, q3⟩ => ⟨fun hlt => ⟨⟨⟨by omega, hlt⟩, by omega, by omega⟩, fun hc => ?_, fun hc => ⟨k + 1, (wsucc (by omega)).symm, ⟨q1, by omega, fun i hi => ?_⟩, by omega⟩⟩, fun hge => ?_⟩⟩⟩
  · have : ¬ (p.a.length : Int) = p.b.length := by simpa using hb
    exact same_len (by omega)
  · have : (p.a.length : Int) = p.b.length := by simpa using hb
    omega
  · refine same_no (k := k) fun he => ?_
    simp [he] at hc
  · by_cases he : i = k
    · subst he
      cases hx : gD p.a i; cases hy : gD p.b i; simp [hx, hy] at hc ⊢; exact hc
    · exact q3 i (by omega)
  · exact same_yes q1 (by omega) q3
theorem ok37 : SpecOk Try.prog 37 (C37.spec d37) := okC C37 A37 [] [] Try.func37 (fun _ => by kernel_rfl) (fun _ => gok_nil) (fun p h => p37 p h.1 h.2) (fun _ => noI rfl rfl) _
end Go.Bal

namespace Go.Bal
open Go Go.Sym Go.Proofs
def V50 (a b : Int) : Prop := fnVC Try.prog (ann 8 []) Try.f50 (bodyOf Try.f50) [.int a, .int b] (heapOf []) (.d (eSpan ⟨a, b⟩)) [] [] []
theorem vc50 (a : Int) (b : Int) : (V50 a b) = (a = a ∧ b = b) := by kernel_rfl
def f50 : List AVal → Option (AVal × List Prop)
  | [.d (.v (.int .i64 a)), .d (.v (.int .i64 b))] => some (.d (eSpan ⟨a, b⟩), [])
  | _ => none
def s50 := pureSpec f50
theorem ok50 : SpecOk Try.prog 50 s50 := pureSpec_ok fun xs v p h _ => by
  unfold f50 at h; split at h
  · cases h; exact fnt (A := ann 8 []) (ren := []) (fz := []) Try.func50 (by kernel_rfl) gok_nil (by show V50 _ _; rw [vc50]; exact ⟨rfl, rfl⟩)
  · cases h
def threeN (lo hi : Int) : NetL := ⟨[⟨100, 120⟩, ⟨0, 10⟩, ⟨-200, -100⟩], [⟨0, 1, ⟨90, 115⟩⟩, ⟨1, 2, ⟨lo, hi⟩⟩]⟩
def A49 := ann 17 [(50, s50)]
def C49 : Ctr := { α := Span, xs := fun s => [.int s.lo, .int s.hi], L := fun _ => [], val := fun s => .d (eNetL (threeN s.lo s.hi)), keep := fun _ => [] }
def d49 : List AVal → Heap → Option (Span × List (Nat × Nat) × List Nat)
  | [.d (.v (.int _ a)), .d (.v (.int _ b))], _ => some (⟨a, b⟩, [], [])
  | _, _ => none
def V49 (s : Span) : Prop := fnVC Try.prog A49 Try.f49 (bodyOf Try.f49) (C49.xs s) (heapOf []) (C49.val s) [] [] [2048, 2160]
theorem vc49 (s : Span) : (V49 s) = ((threeN s.lo s.hi).g.length = 3 ∧ 3 ≤ 3 ∧ (∀ (j : Nat), j < (threeN s.lo s.hi).g.length → ((gD (threeN s.lo s.hi).g j).lo = bif decide (0 + j = 0) then 100 else bif decide (0 + j - 1
 = 0) then 0 else -200) ∧ (gD (threeN s.lo s.hi).g j).hi = bif decide (0 + j = 0) then 120 else bif decide (0 + j - 1 = 0) then 10 else -100) ∧ (threeN s.lo s.hi).r.length = 2 ∧ 2 ≤ 2 ∧ ∀ (j : Nat), j < (threeN s.lo
 s.hi).r.length → ((gD (threeN s.lo s.hi).r j).fr = bif decide (0 + j = 0) then 0 else 1) ∧ ((gD (threeN s.lo s.hi).r j).to = bif decide (0 + j = 0) then 1 else 2) ∧ ((gD (threeN s.lo s.hi).r j).sp.lo = bif decide (0 + j
 = 0) then 90 else s.lo) ∧ (gD (threeN s.lo s.hi).r j).sp.hi = bif decide (0 + j = 0) then 115 else s.hi) := by kernel_rfl
theorem p49 (s : Span) : V49 s := by
  rw [vc49]; simp only [condP, eq_self, implies_true, and_self, true_and, and_true, true_implies, forall_const, decide_eq_true_eq, decide_eq_false_iff_not, Int.toNat_natCast, dSpan_eSpan, dReach_eReach, dWay_eWay, dStep_eStep, dFar_eFar, dInt_eInt, Nat.zero_add, Int.zero_sub, Nat.le_eq, Nat.succ_eq_add_one, Nat.add_one_le_iff, Bool.not_eq_true', Bool.not_eq_false', rng_length, dSpan_mk, dReach_mk, dWay_mk, dStep_mk, dFar_mk, rng_getD]
  refine ⟨rfl, by decide, fun j hj => ?_, rfl, by decide, fun j hj => ?_⟩
  · have hj : j < 3 := hj
    match j, hj with
    | 0, _ => exact ⟨rfl, rfl⟩
    | 1, _ => exact ⟨rfl, rfl⟩
    | 2, _ => exact ⟨rfl, rfl⟩
  · have hj : j < 2 := hj
    match j, hj with
    | 0, _ => exact ⟨rfl, rfl, rfl, rfl⟩
    | 1, _ => exact ⟨rfl, rfl, rfl, rfl⟩
theorem ok49 : SpecOk Try.prog 49 (C49.spec d49) := okC C49 (fun _ => A49) [] [2048, 2160] Try.func49 (fun _ => by kernel_rfl) (fun _ => gok_cons ok50 gok_nil) (fun s _ => p49 s) (fun _ => noI rfl rfl) _
end Go.Bal

namespace Go.Bal
open Go Go.Sym Go.Proofs
theorem checkL_some {N : NetL} (h : 1 ≤ N.g.length ∧ N.g.length ≤ 8 ∧ N.r.length ≤ 14) : checkL N = if allB (fun i => flowM (gD N.g i)) N.g.length then first0 (fun i => badR (netF N) (gD N.r i)) N.r.length 0 else 90 := by
  unfold checkL checkM
  rw [if_neg]
  · rfl
  have hg : ((netF N).nG : Int) = N.g.length := rfl
  have hr : (netF N).nR = N.r.length := rfl
  rw [hg, hr]
  simp only [Bool.or_eq_true, Bool.not_eq_true', decide_eq_true_eq, inM, Bool.and_eq_false_iff, decide_eq_false_iff_not]
  omega
def askM (N : NetL) (T : TruthL) : Int := if checkL N = 0 then if T.f.length = N.r.length ∧ T.t.length = N.g.length then if allB (fun i => inM (gD T.f i) (-100000000) 100000000) T.f.length && allB (fun i => inM (gD T.t i) (-100000000) 100000000) T.t.length then 0 else 4 else 2 else checkL N
def truO (T : TruthL) : HCell := .live (.box [.d (eIntsL T.f), .d (eIntsL T.t)])
end Go.Bal

namespace Go.Bal
open Go Go.Sym Go.Proofs
def balS (s : Int) (x : Int) (r : Reach) (f : Int) : Int := if r.fr = s then wr (x - f) else if r.to = s then wr (x + f) else x
def balF (s : Int) : Int → List Reach → List Int → Int
  | x, r :: l, f :: m => balF s (balS s x r f) l m
  | x, _, _ => x
def balAt (N : NetL) (T : TruthL) (s : Nat) : Int := balF s (gD T.t s) N.r T.f
def unbB (N : NetL) (T : TruthL) (s : Nat) : Bool := !decide (balAt N T s = 0)
def unbK (N : NetL) (T : TruthL) (k : Nat) : List Int := ((List.range k).filter fun s => unbB N T s).map fun (s : Nat) => (s : Int)
def unbM (N : NetL) (T : TruthL) : List Int := unbK N T N.g.length
theorem askM_zero {N : NetL} {T : TruthL} (h : askM N T = 0) : checkL N = 0 ∧ (T.f.length = N.r.length ∧ T.t.length = N.g.length) ∧ (∀ i, i < T.f.length → -100000000 ≤ gD T.f i ∧ gD T.f i ≤ 100000000) ∧ ∀ i, i < T.t.length → -100000000 ≤ gD T.t i ∧ gD T.t i ≤ 100000000 := by
  unfold askM at h
  by_cases hc : checkL N = 0
  · rw [if_pos hc] at h
    split at h
    · rename_i hl
      split at h
      · rename_i hb
        simp only [Bool.and_eq_true] at hb
        exact ⟨hc, hl, fun i hi => inM_iff.1 (allB_iff.1 hb.1 i hi), fun i hi => inM_iff.1 (allB_iff.1 hb.2 i hi)⟩
      · cases h
    · cases h
  · rw [if_neg hc] at h; exact absurd h hc
end Go.Bal
