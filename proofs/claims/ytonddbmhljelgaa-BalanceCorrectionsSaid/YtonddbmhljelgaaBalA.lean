/- Package balance: in, flowing, every over spans. -/
import Derived.Test.YtonddbmhljelgaaBal0
set_option linter.unusedVariables false
set_option linter.unusedSimpArgs false
namespace Go.Bal
open Go Go.Sym Go.Proofs
def inM (a b c : Int) : Bool := decide (b ≤ a) && decide (a ≤ c)
def flowM (s : Span) : Bool := inM s.lo (-1000000) s.hi && inM s.hi (-1000000) 1000000
def allB (p : Nat → Bool) : Nat → Bool
  | 0 => true
  | n + 1 => allB p n && p n
theorem allB_iff {p : Nat → Bool} : ∀ {n : Nat}, allB p n = true ↔ ∀ i, i < n → p i = true
  | 0 => by simp [allB]
  | n + 1 => by
    simp only [allB, Bool.and_eq_true, allB_iff (n := n)]
    constructor
    · intro h i hi
      by_cases he : i = n
      · subst he; exact h.2
      · exact h.1 i (by omega)
    · exact fun h => ⟨fun i hi => h i (by omega), h n (by omega)⟩
theorem idx_ge {p : Nat → Bool} : ∀ {n k : Nat}, (0 ≤ idx p n k) ↔ ∃ i, k ≤ i ∧ i < k + n ∧ p i = true
  | 0, k => by simp [idx]; omega
  | n + 1, k => by
    simp only [idx]
    by_cases h : p k = true
    · rw [if_pos h]
      constructor
      · intro _; exact ⟨k, Nat.le_refl _, by omega, h⟩
      · intro _; omega
    · rw [if_neg h, idx_ge (n := n) (k := k + 1)]
      constructor
      · rintro ⟨i, h1, h2, h3⟩; exact ⟨i, by omega, by omega, h3⟩
      · rintro ⟨i, h1, h2, h3⟩
        refine ⟨i, ?_, by omega, h3⟩
        by_cases he : i = k
        · subst he; exact absurd h3 h
        · omega
theorem every_eq {p : Nat → Bool} {n : Nat} : (!decide (0 ≤ idx (fun i => !p i) n 0)) = allB p n := by
  rw [Bool.eq_iff_iff, allB_iff]
  simp only [Bool.not_eq_true', decide_eq_false_iff_not, idx_ge, Nat.zero_le, Nat.zero_add, true_and]
  constructor
  · intro h i hi
    cases hp : p i with
    | true => rfl
    | false => exact (h ⟨i, hi, by simp [hp]⟩).elim
  · rintro h ⟨i, hi, hp⟩
    rw [h i hi] at hp; cases hp
def V62 (a b d : Int) : Prop := fnVC Try.prog (ann 15 []) Try.f62 (bodyOf Try.f62) [.int a, .int b, .int d] (heapOf []) (.bool (inM a b d)) [] [] []
theorem vc62 (a : Int) (b : Int) (d : Int) : (V62 a b d) = (inM a b d = bif decide (a ≥ b) then decide (a ≤ d) else false) := by kernel_rfl
def f62 : List AVal → Option (AVal × List Prop)
  | [.d (.v (.int .i64 a)), .d (.v (.int .i64 b)), .d (.v (.int .i64 c))] => some (.bool (inM a b c), [])
  | _ => none
def s62 := pureSpec f62
theorem c62 (a b d : Int) : FnT Try.prog 62 [.int a, .int b, .int d] (heapOf []) (.bool (inM a b d)) [] := by
  refine fnt (A := ann 15 []) (ren := []) (fz := []) Try.func62 (by kernel_rfl) (gok_nil) ?_
  show V62 a b d
  rw [vc62]
  unfold inM
  by_cases h : b ≤ a <;> simp [h]
theorem ok62 : SpecOk Try.prog 62 s62 := pureSpec_ok fun xs v p h _ => by
  unfold f62 at h; split at h
  · cases h; exact c62 _ _ _
  · cases h
def A81 := ann 13 [(62, s62)]
def V81 (s : Span) : Prop := fnVC Try.prog A81 Try.f81 (bodyOf Try.f81) [.d (eSpan s)] (heapOf []) (.bool (flowM s)) [] [] []
theorem vc81 (s : Span) : (V81 s) = (flowM s = bif inM s.lo (-1000000) s.hi then inM s.hi (-1000000) 1000000 else false) := by kernel_rfl
def f81 : List AVal → Option (AVal × List Prop)
  | [.d (.agg [.v (.int .i64 a), .v (.int .i64 b)])] => some (.bool (flowM ⟨a, b⟩), [])
  | _ => none
def s81 := pureSpec f81
theorem c81 (s : Span) : FnT Try.prog 81 [.d (eSpan s)] (heapOf []) (.bool (flowM s)) [] := by
  refine fnt (A := A81) (ren := []) (fz := []) Try.func81 (by kernel_rfl) (gok_cons ok62 gok_nil) ?_
  show V81 s
  rw [vc81]
  unfold flowM
  cases inM s.lo (-1000000) s.hi <;> simp
theorem ok81 : SpecOk Try.prog 81 s81 := pureSpec_ok fun xs v p h _ => by
  unfold f81 at h; split at h
  · cases h; exact c81 ⟨_, _⟩
  · cases h
def B81 : AObj := .box [.fn (.func 81) [] []]
def C105 : Ctr := { ro := [100], α := Span, xs := fun s => [.d (eSpan s), .bptr 100 0], L := fun _ => [(100, B81)], val := fun s => .bool (!flowM s), keep := fun _ => [(100, .live B81)] }
def d105 : List AVal → Heap → Option (Span × List (Nat × Nat) × List Nat)
  | [.d d, .bptr id _], _ => some (dSpan d, [(100, id)], [])
  | _, _ => none
def A105 := { ann 8 [(81, s81)] with E := [100] }
def V105 (s : Span) : Prop := fnVC Try.prog A105 Try.f105 (bodyOf Try.f105) (C105.xs s) (heapOf (C105.L s)) (C105.val s) (C105.keep s) [] []
theorem vc105 (s : Span) : (V105 s) = ((!flowM s) = !flowM s) := by kernel_rfl
theorem p105 (s : Span) : V105 s := by rw [vc105]
theorem ok105 : SpecOk Try.prog 105 (C105.spec d105) := Ctr.spec_ok (fun (s : Span) _ => fnt (A := A105) (ren := []) (fz := []) Try.func105 (by kernel_rfl) (gok_cons ok81 gok_nil) (p105 s)) _
def A109 (n : Nat) (g : Nat → Span) : Ann := { ann 19 [(105, C105.spec d105)] with E := [100], loops := fun id => if id = 2 then some [{ α := Nat, dflt := 0, T := fun k => ⟨[(0, .d (eSpans n g)), (1, .fn (.func 105) [] [.bptr 100 0]), (7, .int n), (8, .int k)], [(100, .live B81)]⟩, inv := fun k => k ≤ n ∧ idx (fun i => !flowM (g i)) n 0 = idx (fun i => !flowM (g i)) (n - k) k, meas := fun k => n - k }] else none }
structure NSpan where
  n : Nat
  g : Nat → Span
def C109 : Ctr := { ro := [100], α := NSpan, xs := fun s => [.d (eSpans s.n s.g), .fn (.func 105) [] [.bptr 100 0]], L := fun _ => [(100, B81)], val := fun s => .int (idx (fun i => !flowM (s.g i)) s.n 0), keep := fun _ => [(100, .live B81)], pre := fun s => [decide (s.n < 4611686018427387904) = true] }
def d109 : List AVal → Heap → Option (NSpan × List (Nat × Nat) × List Nat)
  | [.d (.list _ n g _), .fn _ _ [.bptr id _]], _ => some (⟨n, fun i => dSpan (g i)⟩, [(100, id)], [])
  | _, _ => none
def V109 (s : NSpan) : Prop := fnVC Try.prog (A109 s.n s.g) Try.f109 (bodyOf Try.f109) (C109.xs s) (heapOf (C109.L s)) (C109.val s) (C109.keep s) [] []
theorem vc109 (s : NSpan) : (V109 s) = ((∃ (a : Nat), (s.n = s.n ∧ (∀ (i : Nat), i < s.n → (s.g i).lo = (s.g i).lo ∧ (s.g i).hi = (s.g i).hi) ∧ (↑s.n : Int) = (↑s.n : Int) ∧ (↑a : Int) = 0) ∧ a ≤ s.n ∧ idx (fun (i : Nat)
 => !flowM (s.g i)) s.n 0 = idx (fun (i : Nat) => !flowM (s.g i)) (s.n - a) a) ∧ ∀ (a : Nat), a ≤ s.n ∧ idx (fun (i : Nat) => !flowM (s.g i)) s.n 0 = idx (fun (i : Nat) => !flowM (s.g i)) (s.n - a) a → bif decide ((↑a :
 Int) < (↑s.n : Int)) then ((0 ≤ (↑a : Int) ∧ (↑a : Int) < (↑s.n : Int)) ∧ (s.g a).lo = (s.g a).lo ∧ (s.g a).hi = (s.g a).hi) ∧ bif !flowM (s.g a) then idx (fun (i : Nat) => !flowM (s.g i)) s.n 0 = (↑a : Int) else ∃ (a_2
 : Nat), (s.n = s.n ∧ (∀ (i : Nat), i < s.n → (s.g i).lo = (s.g i).lo ∧ (s.g i).hi = (s.g i).hi) ∧ (↑s.n : Int) = (↑s.n : Int) ∧ (↑a_2 : Int) = IntKind.i64.wrap ((↑a : Int) + 1)) ∧ (a_2 ≤ s.n ∧ idx (fun (i : Nat) =>
 !flowM (s.g i)) s.n 0 = idx (fun (i : Nat) => !flowM (s.g i)) (s.n - a_2) a_2) ∧ s.n - a_2 < s.n - a else idx (fun (i : Nat) => !flowM (s.g i)) s.n 0 = -1) := by kernel_rfl
theorem p109 (s : NSpan) (h : s.n < 4611686018427387904) : V109 s := by
  rw [vc109]
  simp only [condP, eq_self, implies_true, and_self, true_and, and_true, true_implies, forall_const, decide_eq_true_eq, decide_eq_false_iff_not, Int.toNat_natCast, dSpan_eSpan, dReach_eReach, dWay_eWay, dStep_eStep, dFar_eFar, dInt_eInt, Nat.zero_add, Int.zero_sub, Nat.le_eq, Nat.succ_eq_add_one, Nat.add_one_le_iff, Bool.not_eq_true', Bool.not_eq_false', rng_length, dSpan_mk, dReach_mk, dWay_mk, dStep_mk, dFar_mk, rng_getD]
  refine ⟨⟨0, rfl, Nat.zero_le _, rfl⟩, fun a ⟨h1, h2⟩ => ⟨fun hlt => ?_, fun hge => ?_⟩⟩
  · have hlt : a < s.n := by omega
    refine ⟨⟨by omega, by omega⟩, fun hp => ?_, fun hp => ⟨a + 1, (wsucc (by omega)).symm, ⟨by omega, ?_⟩, by omega⟩⟩
    · rw [h2]; exact idx_stop hlt (by simp [hp])
    · rw [h2]; exact idx_go hlt (by simp [hp])
  · rw [h2]; exact idx_end (by omega)
theorem ok109 : SpecOk Try.prog 109 (C109.spec d109) := Ctr.spec_ok (fun (s : NSpan) h => fnt (A := A109 s.n s.g) (ren := []) (fz := []) Try.func109 (by kernel_rfl) (gok_cons ok105 gok_nil) (p109 s (of_decide_eq_true h))) _
def C104 : Ctr := { C109 with val := fun s => .bool (decide (idx (fun i => !flowM (s.g i)) s.n 0 ≥ 0)) }
def A104 := { ann 9 [(109, C109.spec d109)] with E := [100] }
def V104 (s : NSpan) : Prop := fnVC Try.prog A104 Try.f104 (bodyOf Try.f104) (C104.xs s) (heapOf (C104.L s)) (C104.val s) (C104.keep s) [] []
theorem vc104 (s : NSpan) : (V104 s) = ((s.n = s.n ∧ (∀ (i : Nat), i < s.n → (s.g i).lo = (s.g i).lo ∧ (s.g i).hi = (s.g i).hi) ∧ decide (s.n < 4611686018427387904) = true) ∧ decide (idx (fun (i : Nat) => !flowM (s.g i))
 s.n 0 ≥ 0) = decide (idx (fun (i : Nat) => !flowM (s.g i)) s.n 0 ≥ 0)) := by kernel_rfl
def d104 : List AVal → Heap → Option (C104.α × List (Nat × Nat) × List Nat) := d109
theorem p104 (s : NSpan) (h : s.n < 4611686018427387904) : V104 s := by
  rw [vc104]; simp [h]
theorem ok104 : SpecOk Try.prog 104 (C104.spec d104) := Ctr.spec_ok (fun (s : NSpan) h => fnt (A := A104) (ren := []) (fz := []) Try.func104 (by kernel_rfl) (gok_cons ok109 gok_nil) (p104 s (of_decide_eq_true h))) _
def A80 := ann 9 [(104, C104.spec d104)]
def V80 (s : NSpan) : Prop := fnVC Try.prog A80 Try.f80 (bodyOf Try.f80) [.d (eSpans s.n s.g), .fn (.func 81) [] []] (heapOf []) (.bool (allB (fun i => flowM (s.g i)) s.n)) [] [] []
theorem vc80 (s : NSpan) : (V80 s) = ((s.n = s.n ∧ (∀ (i : Nat), i < s.n → (s.g i).lo = (s.g i).lo ∧ (s.g i).hi = (s.g i).hi) ∧ decide (s.n < 4611686018427387904) = true) ∧ allB (fun (i : Nat) => flowM (s.g i)) s.n =
 !decide (idx (fun (i : Nat) => !flowM (s.g i)) s.n 0 ≥ 0)) := by kernel_rfl
def f80 : List AVal → Option (AVal × List Prop)
  | [.d (.list 2 n g _), .fn (.func 81) [] []] => some (.bool (allB (fun i => flowM (dSpan (g i))) n), [decide (n < 4611686018427387904) = true, ∀ i, i < n → isSpan (g i)])
  | _ => none
def s80 := pureSpec f80
theorem p80 (s : NSpan) (h : s.n < 4611686018427387904) : V80 s := by
  rw [vc80]; simp only [condP, eq_self, implies_true, and_self, true_and, and_true, true_implies, forall_const, decide_eq_true_eq, decide_eq_false_iff_not, Int.toNat_natCast, dSpan_eSpan, dReach_eReach, dWay_eWay, dStep_eStep, dFar_eFar, dInt_eInt, Nat.zero_add, Int.zero_sub, Nat.le_eq, Nat.succ_eq_add_one, Nat.add_one_le_iff, Bool.not_eq_true', Bool.not_eq_false', rng_length, dSpan_mk, dReach_mk, dWay_mk, dStep_mk, dFar_mk, rng_getD, ge_iff_le, every_eq]; exact h
theorem ok80 : SpecOk Try.prog 80 s80 := pureSpec_ok fun xs v p h hp => by
  unfold f80 at h; split at h
  · rename_i n g e
    cases h
    obtain ⟨h1, h2⟩ := hp
    have := fnt (A := A80) (L := []) (keep := []) (ren := []) (fz := []) Try.func80 (by kernel_rfl) (gok_cons ok104 gok_nil) (p80 ⟨n, fun i => dSpan (g i)⟩ (of_decide_eq_true h1))
    exact this.weak ⟨lst_sub fun i hi => isSpan_eq (h2 i hi), ⟨rfl, trivial, trivial⟩, trivial⟩
  · cases h
def badR (N : Net) (r : Reach) : Int := if (!inM r.fr 0 (N.nG - 1) || !inM r.to 0 (N.nG - 1)) || decide (r.fr = r.to) then 2 else if flowM r.sp then 0 else 90
def first0 (e : Nat → Int) : Nat → Nat → Int
  | 0, _ => 0
  | n + 1, k => if e k = 0 then first0 e n (k + 1) else e k
def checkM (N : Net) : Int := if !inM N.nG 1 8 || decide (14 < N.nR) then 3 else if allB (fun i => flowM (N.g i)) N.nG then first0 (fun i => badR N (N.r i)) N.nR 0 else 90
theorem first0_stop {e : Nat → Int} {n k : Nat} (hk : k < n) (h : e k ≠ 0) : first0 e (n - k) k = e k := by
  obtain ⟨m, rfl⟩ : ∃ m, n = k + 1 + m := ⟨n - k - 1, by omega⟩
  rw [show k + 1 + m - k = m + 1 by omega]; simp [first0, h]
theorem first0_go {e : Nat → Int} {n k : Nat} (hk : k < n) (h : e k = 0) : first0 e (n - k) k = first0 e (n - (k + 1)) (k + 1) := by
  obtain ⟨m, rfl⟩ : ∃ m, n = k + 1 + m := ⟨n - k - 1, by omega⟩
  rw [show k + 1 + m - k = m + 1 by omega, show k + 1 + m - (k + 1) = m by omega]; simp [first0, h]
theorem first0_end {e : Nat → Int} {n k : Nat} (hk : n ≤ k) : first0 e (n - k) k = 0 := by
  rw [show n - k = 0 by omega]; rfl
def bNet (N : Net) : AObj := .box [.d (eSpans N.nG N.g), .d (eReaches N.nR N.r)]
def A44 (N : Net) : Ann := { ann 61 [(62, s62), (80, s80), (81, s81)] with loops := fun id => if id = 6 then some [{ α := Nat, dflt := 0, T := fun k => ⟨[(1, .bptr 1000 0), (23, .d (eReaches N.nR N.r)), (24, .int N.nR), (25, .int k)], [(1000, .live (bNet N))]⟩, inv := fun k => k ≤ N.nR ∧ N.nG ≤ 8 ∧ N.nR ≤ 14 ∧ checkM N = first0 (fun i => badR N (N.r i)) (N.nR - k) k, meas := fun k => N.nR - k }] else none }
def V44 (N : Net) : Prop := fnVC Try.prog (A44 N) Try.f44 (bodyOf Try.f44) [.d (eNet N)] (heapOf []) (.int (checkM N)) [] [] []
theorem vc44 (N : Net) : (V44 N) = (bif bif !inM (↑N.nG : Int) 1 8 then true else decide ((↑N.nR : Int) > 14) then checkM N = 3 else (decide (N.nG < 4611686018427387904) = true ∧ ∀ (i : Nat), i < N.nG → True) ∧ bif !allB
 (fun (i : Nat) => flowM (N.g i)) N.nG then checkM N = 90 else (∃ (a : Nat), (N.nR = N.nR ∧ (∀ (i : Nat), i < N.nR → (N.r i).fr = (N.r i).fr ∧ (N.r i).to = (N.r i).to ∧ (N.r i).sp.lo = (N.r i).sp.lo ∧ (N.r i).sp.hi = (N.r
 i).sp.hi) ∧ (↑N.nR : Int) = (↑N.nR : Int) ∧ (↑a : Int) = 0 ∧ N.nG = N.nG ∧ (∀ (i : Nat), i < N.nG → (N.g i).lo = (N.g i).lo ∧ (N.g i).hi = (N.g i).hi) ∧ N.nR = N.nR ∧ ∀ (i : Nat), i < N.nR → (N.r i).fr = (N.r i).fr ∧
 (N.r i).to = (N.r i).to ∧ (N.r i).sp.lo = (N.r i).sp.lo ∧ (N.r i).sp.hi = (N.r i).sp.hi) ∧ a ≤ N.nR ∧ N.nG ≤ 8 ∧ N.nR ≤ 14 ∧ checkM N = first0 (fun (i : Nat) => badR N (N.r i)) (N.nR - a) a) ∧ ∀ (a : Nat), a ≤ N.nR ∧
 N.nG ≤ 8 ∧ N.nR ≤ 14 ∧ checkM N = first0 (fun (i : Nat) => badR N (N.r i)) (N.nR - a) a → bif decide ((↑a : Int) < (↑N.nR : Int)) then (0 ≤ (↑a : Int) ∧ (↑a : Int) < (↑N.nR : Int)) ∧ bif bif bif !inM (N.r a).fr 0
 (IntKind.i64.wrap ((↑N.nG : Int) - 1)) then true else !inM (N.r a).to 0 (IntKind.i64.wrap ((↑N.nG : Int) - 1)) then true else (N.r a).fr == (N.r a).to then checkM N = 2 else bif !flowM (N.r a).sp then checkM N = 90 else
 ∃ (a_2 : Nat), (N.nR = N.nR ∧ (∀ (i : Nat), i < N.nR → (N.r i).fr = (N.r i).fr ∧ (N.r i).to = (N.r i).to ∧ (N.r i).sp.lo = (N.r i).sp.lo ∧ (N.r i).sp.hi = (N.r i).sp.hi) ∧ (↑N.nR : Int) = (↑N.nR : Int) ∧ (↑a_2 : Int) =
 IntKind.i64.wrap ((↑a : Int) + 1) ∧ N.nG = N.nG ∧ (∀ (i : Nat), i < N.nG → (N.g i).lo = (N.g i).lo ∧ (N.g i).hi = (N.g i).hi) ∧ N.nR = N.nR ∧ ∀ (i : Nat), i < N.nR → (N.r i).fr = (N.r i).fr ∧ (N.r i).to = (N.r i).to ∧
 (N.r i).sp.lo = (N.r i).sp.lo ∧ (N.r i).sp.hi = (N.r i).sp.hi) ∧ (a_2 ≤ N.nR ∧ N.nG ≤ 8 ∧ N.nR ≤ 14 ∧ checkM N = first0 (fun (i : Nat) => badR N (N.r i)) (N.nR - a_2) a_2) ∧ N.nR - a_2 < N.nR - a else checkM N = 0) := by
 kernel_rfl
def f44 : List AVal → Option (AVal × List Prop)
  | [.d (.agg [.list 2 nG g _, .list 4 nR r _])] => some (.int (checkM ⟨nG, fun i => dSpan (g i), nR, fun i => dReach (r i)⟩), [∀ i, i < nG → isSpan (g i), ∀ i, i < nR → isReach (r i)])
  | _ => none
def s44 := pureSpec f44
theorem p44 (N : Net) : V44 N := by
  simp only [vc44, condP, eq_self, implies_true, and_self, true_and, and_true, true_implies, forall_const, decide_eq_true_eq, decide_eq_false_iff_not, Int.toNat_natCast, dSpan_eSpan, dReach_eReach, dWay_eWay, dStep_eStep, dFar_eFar, dInt_eInt, Nat.zero_add, Int.zero_sub, Nat.le_eq, Nat.succ_eq_add_one, Nat.add_one_le_iff, Bool.not_eq_true', Bool.not_eq_false', rng_length, dSpan_mk, dReach_mk, dWay_mk, dStep_mk, dFar_mk, rng_getD]
  refine ⟨fun h => ?_, fun h => ?_⟩
  · have h : (!inM N.nG 1 8 || decide (14 < N.nR)) = true := by
      rw [← h]; cases inM N.nG 1 8 <;> simp <;> omega
    simp only [checkM, h, if_true]
  have h' : (!inM N.nG 1 8 || decide (14 < N.nR)) = false := by
    rw [← h]; cases inM N.nG 1 8 <;> simp <;> omega
  have hb : N.nG ≤ 8 ∧ 1 ≤ N.nG ∧ N.nR ≤ 14 := by
    simp only [Bool.or_eq_false_iff, Bool.not_eq_false', decide_eq_false_iff_not, inM, Bool.and_eq_true, decide_eq_true_eq] at h'
    omega
  refine ⟨by omega, fun h2 => ?_, fun h2 => ?_⟩
  · have h2 : allB (fun i => flowM (N.g i)) N.nG = false := by simpa using h2
    simp [checkM, h', h2]
  have h2 : allB (fun i => flowM (N.g i)) N.nG = true := by simpa using h2
  refine ⟨⟨0, rfl, Nat.zero_le _, hb.1, hb.2.2, ?_⟩, fun a ⟨h3, _, _, h4⟩ => ⟨fun hlt => ?_, fun hge => ?_⟩⟩
  · simp [checkM, h', h2]
  · have hw : IntKind.i64.wrap ((N.nG : Int) - 1) = (N.nG : Int) - 1 := w64 (by omega) (by omega)
    have hlt : a < N.nR := by omega
    simp only [hw]
    refine ⟨⟨by omega, by omega⟩, fun h5 => ?_, fun h5 => ⟨fun h6 => ?_, fun h6 => ⟨a + 1, (wsucc (by omega)).symm, ⟨by omega, hb.1, hb.2.2, ?_⟩, by omega⟩⟩⟩
    · have e : badR N (N.r a) = 2 := by
        unfold badR; rw [if_pos]; rw [← h5]
        cases inM (N.r a).fr 0 (N.nG - 1) <;> cases inM (N.r a).to 0 (N.nG - 1) <;> simp [Bool.beq_eq_decide_eq]
      rw [h4, first0_stop hlt (by rw [e]; decide), e]
    all_goals
      have e0 : ((!inM (N.r a).fr 0 (N.nG - 1) || !inM (N.r a).to 0 (N.nG - 1)) || decide ((N.r a).fr = (N.r a).to)) = false := by
        rw [← h5]
        cases inM (N.r a).fr 0 (N.nG - 1) <;> cases inM (N.r a).to 0 (N.nG - 1) <;> simp [Bool.beq_eq_decide_eq]
    · have h6 : flowM (N.r a).sp = false := by simpa using h6
      have e : badR N (N.r a) = 90 := by unfold badR; rw [e0, h6]; rfl
      rw [h4, first0_stop hlt (by rw [e]; decide), e]
    · have h6 : flowM (N.r a).sp = true := by simpa using h6
      have e : badR N (N.r a) = 0 := by unfold badR; rw [e0, h6]; rfl
      rw [h4]; exact first0_go hlt e
  · rw [h4]; exact first0_end (by omega)
theorem eNet_sub {nG nR : Nat} {g r : Nat → DVal} {a b : Bool} (hg : ∀ i, i < nG → isSpan (g i)) (hr : ∀ i, i < nR → isReach (r i)) : dsub (eNet ⟨nG, fun i => dSpan (g i), nR, fun i => dReach (r i)⟩) (.agg [.list 2 nG g a, .list 4 nR r b]) := by
  simp only [eNet, dsub, dsubL]
  exact ⟨lst_sub fun i hi => isSpan_eq (hg i hi), lst_sub fun i hi => isReach_eq (hr i hi), trivial⟩
theorem ok44 : SpecOk Try.prog 44 s44 := pureSpec_ok fun xs v p h hp => by
  unfold f44 at h; split at h
  · rename_i nG g e1 nR r e2
    cases h
    obtain ⟨h1, h2⟩ := hp
    have := fnt (L := []) (keep := []) (ren := []) (fz := []) Try.func44 (by kernel_rfl) (gok_cons ok62 (gok_cons ok80 (gok_cons ok81 gok_nil))) (p44 ⟨nG, fun i => dSpan (g i), nR, fun i => dReach (r i)⟩)
    exact this.weak (vsub_d (eNet_sub h1 h2))
  · cases h
end Go.Bal
