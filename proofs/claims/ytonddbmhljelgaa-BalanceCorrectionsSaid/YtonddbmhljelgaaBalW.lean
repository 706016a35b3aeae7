/- The statements' helpers of package balance. -/
import Derived.Test.YtonddbmhljelgaaBalU
set_option linter.unusedVariables false
set_option linter.unusedSimpArgs false
namespace Go.Bal
open Go Go.Sym Go.Proofs
def V50 (a b : Int) : Prop := fnVC Try.prog (ann 8 []) Try.f50 (bodyOf Try.f50) [.int a, .int b] (heapOf []) (.d (eSpan ⟨a, b⟩)) [] [] []
theorem vc50 (a : Int) (b : Int) : (V50 a b) = (a = a ∧ b = b) := by kernel_rfl
def f50 : List AVal → Option (AVal × List Prop)
  | [.d (.v (.int .i64 a)), .d (.v (.int .i64 b))] => some (.d (eSpan ⟨a, b⟩), [])
  | _ => none
def s50 := pureSpec f50
theorem ok50 : SpecOk Try.prog 50 s50 := pureSpec_ok fun xs v p h _ => by
  unfold f50 at h; split at h
  · cases h; exact fnt (A := ann 8 []) (ren := []) (fz := []) Try.func50 (by kernel_rfl) gok_nil (by show V50 _ _; rw [vc50]; exact ⟨rfl, rfl⟩)
  · cases h
def threeN (lo hi : Int) : NetL := ⟨[⟨100, 120⟩, ⟨0, 10⟩, ⟨-200, -100⟩], [⟨0, 1, ⟨90, 115⟩⟩, ⟨1, 2, ⟨lo, hi⟩⟩]⟩
def A49 := ann 17 [(50, s50)]
def C49 : Ctr := { α := Span, xs := fun s => [.int s.lo, .int s.hi], L := fun _ => [], val := fun s => .d (eNetL (threeN s.lo s.hi)), keep := fun _ => [] }
def d49 : List AVal → Heap → Option (Span × List (Nat × Nat) × List Nat)
  | [.d (.v (.int _ a)), .d (.v (.int _ b))], _ => some (⟨a, b⟩, [], [])
  | _, _ => none
def V49 (s : Span) : Prop := fnVC Try.prog A49 Try.f49 (bodyOf Try.f49) (C49.xs s) (heapOf []) (C49.val s) [] [] [2048, 2160]
theorem vc49 (s : Span) : (V49 s) = ((threeN s.lo s.hi).g.length = 3 ∧ 3 ≤ 3 ∧ (∀ (j : Nat), j < (threeN s.lo s.hi).g.length → ((gD (threeN s.lo s.hi).g j).lo = bif decide (0 + j = 0) then 100 else bif decide (0 + j - 1
 = 0) then 0 else -200) ∧ (gD (threeN s.lo s.hi).g j).hi = bif decide (0 + j = 0) then 120 else bif decide (0 + j - 1 = 0) then 10 else -100) ∧ (threeN s.lo s.hi).r.length = 2 ∧ 2 ≤ 2 ∧ ∀ (j : Nat), j < (threeN s.lo
 s.hi).r.length → ((gD (threeN s.lo s.hi).r j).fr = bif decide (0 + j = 0) then 0 else 1) ∧ ((gD (threeN s.lo s.hi).r j).to = bif decide (0 + j = 0) then 1 else 2) ∧ ((gD (threeN s.lo s.hi).r j).sp.lo = bif decide (0 + j
 = 0) then 90 else s.lo) ∧ (gD (threeN s.lo s.hi).r j).sp.hi = bif decide (0 + j = 0) then 115 else s.hi) := by kernel_rfl
theorem p49 (s : Span) : V49 s := by
  rw [vc49]; simp only [condP, eq_self, implies_true, and_self, true_and, and_true, true_implies, forall_const, decide_eq_true_eq, decide_eq_false_iff_not, Int.toNat_natCast, dSpan_eSpan, dReach_eReach, dWay_eWay, dStep_eStep, dFar_eFar, dInt_eInt, Nat.zero_add, Int.zero_sub, Nat.le_eq, Nat.succ_eq_add_one, Nat.add_one_le_iff, Bool.not_eq_true', Bool.not_eq_false', rng_length, dSpan_mk, dReach_mk, dWay_mk, dStep_mk, dFar_mk, rng_getD]
  refine ⟨rfl, by decide, fun j hj => ?_, rfl, by decide, fun j hj => ?_⟩
  · have hj : j < 3 := hj
    match j, hj with
    | 0, _ => exact ⟨rfl, rfl⟩
    | 1, _ => exact ⟨rfl, rfl⟩
    | 2, _ => exact ⟨rfl, rfl⟩
  · have hj : j < 2 := hj
    match j, hj with
    | 0, _ => exact ⟨rfl, rfl, rfl, rfl⟩
    | 1, _ => exact ⟨rfl, rfl, rfl, rfl⟩
theorem ok49 : SpecOk Try.prog 49 (C49.spec d49) := okC C49 (fun _ => A49) [] [2048, 2160] Try.func49 (fun _ => by kernel_rfl) (fun _ => gok_cons ok50 gok_nil) (fun s _ => p49 s) (fun _ => noI rfl rfl) _
def A15 := ann 10 [(51, C51.spec d51), (52, C52.spec d52)]
def C15 : Ctr := { α := NetL, xs := fun N => [.d (eNetL N)], L := fun _ => [], val := fun N => .d (eNetL N), keep := fun _ => [], pre := fun N => [N.g.length ≤ 1000000, N.r.length ≤ 1000000] }
def V15 (N : NetL) : Prop := fnVC Try.prog A15 Try.f15 (bodyOf Try.f15) (C15.xs N) (heapOf []) (C15.val N) [] [] []
theorem vc15 (N : NetL) : (V15 N) = (((rng N.g.length fun (i : Nat) => gD N.g i).length = N.g.length ∧ (∀ (i : Nat), i < (rng N.g.length fun (i : Nat) => gD N.g i).length → (gD (rng N.g.length fun (i : Nat) => gD N.g i)
 i).lo = (gD N.g i).lo ∧ (gD (rng N.g.length fun (i : Nat) => gD N.g i) i).hi = (gD N.g i).hi) ∧ (rng N.g.length fun (i : Nat) => gD N.g i).length ≤ 1000000 ∧ (rng N.r.length fun (i : Nat) => gD N.r i).length = N.r.length
 ∧ (∀ (i : Nat), i < (rng N.r.length fun (i : Nat) => gD N.r i).length → (gD (rng N.r.length fun (i : Nat) => gD N.r i) i).fr = (gD N.r i).fr ∧ (gD (rng N.r.length fun (i : Nat) => gD N.r i) i).to = (gD N.r i).to ∧ (gD
 (rng N.r.length fun (i : Nat) => gD N.r i) i).sp.lo = (gD N.r i).sp.lo ∧ (gD (rng N.r.length fun (i : Nat) => gD N.r i) i).sp.hi = (gD N.r i).sp.hi) ∧ (rng N.r.length fun (i : Nat) => gD N.r i).length.le 1000000) ∧
 N.g.length = (rng N.g.length fun (i : Nat) => gD N.g i).length ∧ (∀ (i : Nat), i < N.g.length → (gD N.g i).lo = (gD (rng N.g.length fun (i : Nat) => gD N.g i) i).lo ∧ (gD N.g i).hi = (gD (rng N.g.length fun (i : Nat) =>
 gD N.g i) i).hi) ∧ N.r.length = (rng N.r.length fun (i : Nat) => gD N.r i).length ∧ ∀ (i : Nat), i < N.r.length → (gD N.r i).fr = (gD (rng N.r.length fun (i : Nat) => gD N.r i) i).fr ∧ (gD N.r i).to = (gD (rng N.r.length
 fun (i : Nat) => gD N.r i) i).to ∧ (gD N.r i).sp.lo = (gD (rng N.r.length fun (i : Nat) => gD N.r i) i).sp.lo ∧ (gD N.r i).sp.hi = (gD (rng N.r.length fun (i : Nat) => gD N.r i) i).sp.hi) := by kernel_rfl
theorem p15 (N : NetL) (h1 : N.g.length ≤ 1000000) (h2 : N.r.length ≤ 1000000) : V15 N := by
  rw [vc15]; simp only [condP, eq_self, implies_true, and_self, true_and, and_true, true_implies, forall_const, decide_eq_true_eq, decide_eq_false_iff_not, Int.toNat_natCast, dSpan_eSpan, dReach_eReach, dWay_eWay, dStep_eStep, dFar_eFar, dInt_eInt, Nat.zero_add, Int.zero_sub, Nat.le_eq, Nat.succ_eq_add_one, Nat.add_one_le_iff, Bool.not_eq_true', Bool.not_eq_false', rng_length, dSpan_mk, dReach_mk, dWay_mk, dStep_mk, dFar_mk, rng_getD]
  exact ⟨h1, h2⟩
theorem ok15 : SpecOk Try.prog 15 (C15.spec d67) := okC C15 (fun _ => A15) [] [] Try.func15 (fun _ => by kernel_rfl) (fun _ => gok_cons ok51 (gok_cons ok52 gok_nil)) (fun N h => p15 N h.1 h.2) (fun _ => noI rfl rfl) _
def nwB (N : NetL) (v : AVal) : HCell := .live (.box [.d (eSpansL N.g), v])
def A17 (N : NetL) : Ann := { ann 27 [(51, C51.spec d51)] with mt := fun id => id == 5, loops := fun id => if id = 3 then some [{ α := Nat, dflt := 0, T := fun k => ⟨[(1, .bptr 201 0), (2, .bptr 202 0), (3, .bptr 203 0), (4, .int k)], [(201, begO N), (202, .live (.box [.d nilL, .d nilL])), (203, nwB N (.d nilL))]⟩, inv := fun k => k = 0, meas := fun k => N.r.length - k, first := [(201, 1000), (202, 1016), (203, 2064)] }, { α := Nat, dflt := 0, T := fun k => ⟨[(1, .bptr 201 0), (2, .bptr 202 0), (3, .bptr 203 0), (4, .int k)], [(201, begO N), (202, .live (.box [.d nilL, .d nilL])), (203, nwB N (.own 204 4 0 k)), (204, .live (.row 4 k fun i => eReach (gD N.r i)))]⟩, inv := fun k => k ≤ N.r.length, meas := fun k => N.r.length - k, again := [(204, 6128)] }] else none }
def C17 : Ctr := { C15 with val := fun (N : NetL) => .d (eNetL N) }
def d17 : List AVal → Heap → Option (C17.α × List (Nat × Nat) × List Nat) := d67
def V17 (N : NetL) : Prop := fnVC Try.prog (A17 N) Try.f17 (bodyOf Try.f17) (C17.xs N) (heapOf []) (C17.val N) [] [] [204]
abbrev z17_0 (N : NetL) : List Span := rng N.g.length fun (i : Nat) => gD N.g i
abbrev z17_1 (N : NetL) : Nat := (z17_0 N).length
abbrev z17_2 (N : NetL) (i : Nat) : Span := gD (z17_0 N) i
abbrev z17_3 (N : NetL) (i : Nat) : Int := (z17_2 N i).lo
abbrev z17_4 (N : NetL) (i : Nat) : Int := (z17_2 N i).hi
abbrev z17_5 (N : NetL) : Prop := N.g.length = N.g.length
abbrev z17_6 (N : NetL) : Prop := ∀ (i : Nat), i < N.g.length → (gD N.g i).lo = (gD N.g i).lo ∧ (gD N.g i).hi = (gD N.g i).hi
abbrev z17_7 (N : NetL) : Prop := N.r.length = N.r.length
abbrev z17_8 (N : NetL) : Prop := ∀ (i : Nat), i < N.r.length → (gD N.r i).fr = (gD N.r i).fr ∧ (gD N.r i).to = (gD N.r i).to ∧ (gD N.r i).sp.lo = (gD N.r i).sp.lo ∧ (gD N.r i).sp.hi = (gD N.r i).sp.hi
abbrev z17_9 : Prop := 0 = 0
abbrev z17_10 : Prop := ∀ (i : Nat), i < 0 → false = false
abbrev z17_11 (a : Nat) (N : NetL) : Prop := (↑a : Int) < (↑N.r.length : Int)
abbrev z17_12 (a : Nat) (N : NetL) : Bool := decide (z17_11 a N)
abbrev z17_13 (a : Nat) (N : NetL) : Prop := 0 ≤ (↑a : Int) ∧ z17_11 a N
abbrev z17_14 : Prop := 0 < 1
abbrev z17_15 : Prop := 4 = 4
abbrev z17_16 : Prop := 1 ≤ 1 ∧ (z17_14 → z17_15)
abbrev z17_17 (a : Nat) (a1 : Nat) : Prop := (↑a : Int) = IntKind.i64.wrap ((↑a1 : Int) + 1)
abbrev z17_18 (N : NetL) (a : Nat) : Nat := N.r.length - a
abbrev z17_19 (a : Nat) (N : NetL) (a1 : Nat) : Prop := a.le N.r.length ∧ z17_18 N a < z17_18 N a1
abbrev z17_20 (N : NetL) : Prop := N.r.length = 0
abbrev z17_21 (a : Nat) : Nat := a + 1
abbrev z17_22 (a : Nat) (a1 : Nat) : Prop := a = z17_21 a1
abbrev z17_23 (a : Nat) : Nat := 0 + a
abbrev z17_24 (N : NetL) (j : Nat) : Reach := gD N.r (z17_23 j)
abbrev z17_25 (N : NetL) (j : Nat) : Span := (z17_24 N j).sp
theorem vc17 (N : NetL) : (V17 N) = ((z17_1 N = N.g.length ∧ (∀ (i : Nat), i < z17_1 N → z17_3 N i = (gD N.g i).lo ∧ z17_4 N i = (gD N.g i).hi) ∧ (z17_1 N).le 1000000) ∧ (∃ (a : Nat), ((↑a : Int) = 0 ∧ z17_5 N ∧ z17_6 N
 ∧ z17_7 N ∧ z17_8 N ∧ z17_9 ∧ z17_10 ∧ z17_9 ∧ z17_10 ∧ N.g.length = z17_1 N ∧ (∀ (i : Nat), i < N.g.length → (gD N.g i).lo = z17_3 N i ∧ (gD N.g i).hi = z17_4 N i) ∧ z17_9 ∧ z17_10) ∧ a = 0) ∧ (∀ (a : Nat), a = 0 → bif
 z17_12 a N then (z17_13 a N ∧ (True ∧ (0 < 0 → 0 = 4)) ∧ z17_16 ∧ (true = true → z17_14) ∧ 1 ≤ 9223372036854775807 ∧ 32 ≤ 140737488355328) ∧ ∃ (a_2 : Nat), (z17_17 a_2 a ∧ z17_5 N ∧ z17_6 N ∧ z17_7 N ∧ z17_8 N ∧ z17_9 ∧
 z17_10 ∧ z17_9 ∧ z17_10 ∧ z17_5 N ∧ z17_6 N ∧ z17_9 ∧ a_2 = 1 ∧ a_2 = 1 ∧ ∀ (i : Nat), i < a_2 → (gD N.r i).fr = (gD N.r a).fr ∧ (gD N.r i).to = (gD N.r a).to ∧ (gD N.r i).sp.lo = (gD N.r a).sp.lo ∧ (gD N.r i).sp.hi =
 (gD N.r a).sp.hi) ∧ z17_19 a_2 N a else z17_5 N ∧ z17_6 N ∧ z17_20 N ∧ z17_20 N) ∧ ∀ (a : Nat), a.le N.r.length → bif z17_12 a N then (z17_13 a N ∧ (a = a ∧ (0 < a → z17_15)) ∧ z17_16 ∧ (false = true → z17_14) ∧ z17_21 a
 ≤ 9223372036854775807 ∧ z17_21 a * 32 ≤ 140737488355328) ∧ ∃ (a_2 : Nat), (z17_17 a_2 a ∧ z17_5 N ∧ z17_6 N ∧ z17_7 N ∧ z17_8 N ∧ z17_9 ∧ z17_10 ∧ z17_9 ∧ z17_10 ∧ z17_5 N ∧ z17_6 N ∧ z17_9 ∧ z17_22 a_2 a ∧ z17_22 a_2 a
 ∧ ∀ (i : Nat), i < a_2 → ((gD N.r i).fr = bif decide (i < a) then (gD N.r i).fr else (gD N.r a).fr) ∧ ((gD N.r i).to = bif decide (i < a) then (gD N.r i).to else (gD N.r a).to) ∧ ((gD N.r i).sp.lo = bif decide (i < a)
 then (gD N.r i).sp.lo else (gD N.r a).sp.lo) ∧ (gD N.r i).sp.hi = bif decide (i < a) then (gD N.r i).sp.hi else (gD N.r a).sp.hi) ∧ z17_19 a_2 N a else z17_5 N ∧ z17_6 N ∧ N.r.length = a ∧ z17_23 a ≤ a ∧ ∀ (j : Nat), j <
 N.r.length → (gD N.r j).fr = (z17_24 N j).fr ∧ (gD N.r j).to = (z17_24 N j).to ∧ (gD N.r j).sp.lo = (z17_25 N j).lo ∧ (gD N.r j).sp.hi = (z17_25 N j).hi) := by kernel_rfl
theorem p17 (N : NetL) (h1 : N.g.length ≤ 1000000) (h2 : N.r.length ≤ 1000000) : V17 N := by
  rw [vc17]; delta z17_0 z17_1 z17_2 z17_3 z17_4 z17_5 z17_6 z17_7 z17_8 z17_9 z17_10 z17_11 z17_12 z17_13 z17_14 z17_15 z17_16 z17_17 z17_18 z17_19 z17_20 z17_21 z17_22 z17_23 z17_24 z17_25; simp only [condP, eq_self, implies_true, and_self, true_and, and_true, true_implies, forall_const, decide_eq_true_eq, decide_eq_false_iff_not, Int.toNat_natCast, dSpan_eSpan, dReach_eReach, dWay_eWay, dStep_eStep, dFar_eFar, dInt_eInt, Nat.zero_add, Int.zero_sub, Nat.le_eq, Nat.succ_eq_add_one, Nat.add_one_le_iff, Bool.not_eq_true', Bool.not_eq_false', rng_length, dSpan_mk, dReach_mk, dWay_mk, dStep_mk, dFar_mk, rng_getD]
  refine ⟨h1, ⟨0, rfl, rfl⟩, fun k hk => ⟨fun hlt => ⟨⟨⟨by omega, hlt⟩, by decide, by decide, by decide, by decide, by decide⟩, ?_⟩, fun hge => by omega⟩, fun k hk => ⟨fun hlt => ⟨⟨⟨by omega, hlt⟩, by decide, by decide, by omega, by omega⟩, ?_⟩, fun hge => ⟨by omega, Nat.le_refl _⟩⟩⟩
  · subst hk
    refine ⟨1, ⟨rfl, rfl, rfl, fun i hi => ?_⟩, by omega, by omega⟩
    have : i = 0 := by omega
    subst this; exact ⟨rfl, rfl, rfl, rfl⟩
  · refine ⟨k + 1, ⟨(wsucc (by omega)).symm, rfl, rfl, fun i hi => ?_⟩, by omega, by omega⟩
    by_cases hi2 : i < k
    · simp [hi2]
    · have : i = k := by omega
      subst this; simp
theorem ok17 : SpecOk Try.prog 17 (C17.spec d17) := okC C17 A17 [] [204] Try.func17 (fun _ => by kernel_rfl) (fun _ => gok_cons ok51 gok_nil) (fun N h => p17 N h.1 h.2) (fun _ => noI rfl rfl) _
structure PNet where
  a : NetL
  b : NetL
def A28 := ann 17 [(37, C37.spec d37), (72, C72.spec d72)]
def sizeN (N : NetL) : Prop := N.g.length ≤ 1000000 ∧ N.r.length ≤ 1000000
def C28 : Ctr := { α := PNet, xs := fun p => [.d (eNetL p.a), .d (eNetL p.b)], L := fun _ => [], val := fun p => .bool (decide (p.a = p.b)), keep := fun _ => [], pre := fun p => [sizeN p.a, sizeN p.b] }
def d28 : List AVal → Heap → Option (PNet × List (Nat × Nat) × List Nat)
  | [.d x, .d y], _ => match decNet x, decNet y with
    | some M, some N => some (⟨M, N⟩, [], [])
    | _, _ => none
  | _, _ => none
def V28 (p : PNet) : Prop := fnVC Try.prog A28 Try.f28 (bodyOf Try.f28) (C28.xs p) (heapOf []) (C28.val p) [] [] []
theorem vc28 (p : PNet) : (V28 p) = (((rng p.a.g.length fun (i : Nat) => gD p.a.g i).length = p.a.g.length ∧ (∀ (i : Nat), i < (rng p.a.g.length fun (i : Nat) => gD p.a.g i).length → (gD (rng p.a.g.length fun (i : Nat)
 => gD p.a.g i) i).lo = (gD p.a.g i).lo ∧ (gD (rng p.a.g.length fun (i : Nat) => gD p.a.g i) i).hi = (gD p.a.g i).hi) ∧ (rng p.b.g.length fun (i : Nat) => gD p.b.g i).length = p.b.g.length ∧ (∀ (i : Nat), i < (rng
 p.b.g.length fun (i : Nat) => gD p.b.g i).length → (gD (rng p.b.g.length fun (i : Nat) => gD p.b.g i) i).lo = (gD p.b.g i).lo ∧ (gD (rng p.b.g.length fun (i : Nat) => gD p.b.g i) i).hi = (gD p.b.g i).hi) ∧ (rng
 p.a.g.length fun (i : Nat) => gD p.a.g i).length < 4611686018427387904 ∧ (rng p.b.g.length fun (i : Nat) => gD p.b.g i).length < 4611686018427387904 ∧ (decide ((rng p.a.g.length fun (i : Nat) => gD p.a.g i) = rng
 p.b.g.length fun (i : Nat) => gD p.b.g i) = true → (rng p.a.r.length fun (i : Nat) => gD p.a.r i).length = p.a.r.length ∧ (∀ (i : Nat), i < (rng p.a.r.length fun (i : Nat) => gD p.a.r i).length → (gD (rng p.a.r.length
 fun (i : Nat) => gD p.a.r i) i).fr = (gD p.a.r i).fr ∧ (gD (rng p.a.r.length fun (i : Nat) => gD p.a.r i) i).to = (gD p.a.r i).to ∧ (gD (rng p.a.r.length fun (i : Nat) => gD p.a.r i) i).sp.lo = (gD p.a.r i).sp.lo ∧ (gD
 (rng p.a.r.length fun (i : Nat) => gD p.a.r i) i).sp.hi = (gD p.a.r i).sp.hi) ∧ (rng p.b.r.length fun (i : Nat) => gD p.b.r i).length = p.b.r.length ∧ (∀ (i : Nat), i < (rng p.b.r.length fun (i : Nat) => gD p.b.r
 i).length → (gD (rng p.b.r.length fun (i : Nat) => gD p.b.r i) i).fr = (gD p.b.r i).fr ∧ (gD (rng p.b.r.length fun (i : Nat) => gD p.b.r i) i).to = (gD p.b.r i).to ∧ (gD (rng p.b.r.length fun (i : Nat) => gD p.b.r i)
 i).sp.lo = (gD p.b.r i).sp.lo ∧ (gD (rng p.b.r.length fun (i : Nat) => gD p.b.r i) i).sp.hi = (gD p.b.r i).sp.hi) ∧ (rng p.a.r.length fun (i : Nat) => gD p.a.r i).length < 4611686018427387904 ∧ (rng p.b.r.length fun (i :
 Nat) => gD p.b.r i).length.succ.le 4611686018427387904)) ∧ decide (p.a = p.b) = bif decide ((rng p.a.g.length fun (i : Nat) => gD p.a.g i) = rng p.b.g.length fun (i : Nat) => gD p.b.g i) then decide ((rng p.a.r.length
 fun (i : Nat) => gD p.a.r i) = rng p.b.r.length fun (i : Nat) => gD p.b.r i) else false) := by kernel_rfl
theorem p28 (p : PNet) (h1 : sizeN p.a) (h2 : sizeN p.b) : V28 p := by
  rw [vc28]; simp only [condP, eq_self, implies_true, and_self, true_and, and_true, true_implies, forall_const, decide_eq_true_eq, decide_eq_false_iff_not, Int.toNat_natCast, dSpan_eSpan, dReach_eReach, dWay_eWay, dStep_eStep, dFar_eFar, dInt_eInt, Nat.zero_add, Int.zero_sub, Nat.le_eq, Nat.succ_eq_add_one, Nat.add_one_le_iff, Bool.not_eq_true', Bool.not_eq_false', rng_length, dSpan_mk, dReach_mk, dWay_mk, dStep_mk, dFar_mk, rng_getD]
  obtain ⟨a1, a2⟩ := h1
  obtain ⟨b1, b2⟩ := h2
  refine ⟨⟨by omega, by omega, fun _ => ⟨by omega, by omega⟩⟩, ?_⟩
  obtain ⟨⟨g, r⟩, ⟨g', r'⟩⟩ := p
  by_cases h1 : g = g' <;> by_cases h2 : r = r' <;> simp [h1, h2]
theorem ok28 : SpecOk Try.prog 28 (C28.spec d28) := okC C28 (fun _ => A28) [] [] Try.func28 (fun _ => by kernel_rfl) (fun _ => gok_cons ok37 (gok_cons ok72 gok_nil)) (fun p h => p28 p h.1 h.2) (fun _ => noI rfl rfl) _
end Go.Bal
