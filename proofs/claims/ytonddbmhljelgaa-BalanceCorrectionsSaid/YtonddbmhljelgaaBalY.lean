/- The reference of package balance: Check, asked; the program's asked. -/
import Derived.Test.YtonddbmhljelgaaBalW
set_option linter.unusedVariables false
set_option linter.unusedSimpArgs false
namespace Go.Bal
open Go Go.Sym Go.Proofs
def V60 (a b d : Int) : Prop := fnVC Try.prog (ann 15 []) Try.f60 (bodyOf Try.f60) [.int a, .int b, .int d] (heapOf []) (.bool (!inM a b d)) [] [] []
theorem vc60 (a : Int) (b : Int) (d : Int) : (V60 a b d) = ((!inM a b d) = bif decide (a < b) then true else decide (a > d)) := by kernel_rfl
def f60 : List AVal → Option (AVal × List Prop)
  | [.d (.v (.int .i64 a)), .d (.v (.int .i64 b)), .d (.v (.int .i64 c))] => some (.bool (!inM a b c), [])
  | _ => none
def s60 := pureSpec f60
theorem p60 (a b d : Int) : V60 a b d := by
  rw [vc60]; unfold inM
  by_cases h1 : a < b <;> by_cases h2 : d < a <;> simp [h1, h2] <;> omega
theorem ok60 : SpecOk Try.prog 60 s60 := pureSpec_ok fun xs v p h _ => by
  unfold f60 at h; split at h
  · cases h; exact fnt (A := ann 15 []) (ren := []) (fz := []) Try.func60 (by kernel_rfl) gok_nil (p60 _ _ _)
  · cases h
def V82 (s : Span) : Prop := fnVC Try.prog (ann 18 []) Try.f82 (bodyOf Try.f82) [.d (eSpan s)] (heapOf []) (.bool (!flowM s)) [] [] []
theorem vc82 (s : Span) : (V82 s) = ((!flowM s) = bif bif decide (s.lo < -1000000) then true else decide (s.hi > 1000000) then true else decide (s.lo > s.hi)) := by kernel_rfl
def f82 : List AVal → Option (AVal × List Prop)
  | [.d (.agg [.v (.int .i64 a), .v (.int .i64 b)])] => some (.bool (!flowM ⟨a, b⟩), [])
  | _ => none
def s82 := pureSpec f82
theorem p82 (s : Span) : V82 s := by
  rw [vc82]; unfold flowM inM
  by_cases h1 : s.lo < -1000000 <;> by_cases h2 : 1000000 < s.hi <;> by_cases h3 : s.hi < s.lo <;> simp [h1, h2, h3] <;> omega
theorem ok82 : SpecOk Try.prog 82 s82 := pureSpec_ok fun xs v p h _ => by
  unfold f82 at h; split at h
  · cases h; exact fnt (A := ann 18 []) (ren := []) (fz := []) Try.func82 (by kernel_rfl) gok_nil (p82 ⟨_, _⟩)
  · cases h
def A45 (N : NetL) : Ann := { ann 73 [(60, s60), (82, s82)] with loops := fun id => if id = 4 then some [{ α := Nat, dflt := 0, T := fun k => ⟨[(1, .bptr 200 0), (3, .int k)], [(200, begO N)]⟩, inv := fun k => (1 ≤ N.g.length ∧ N.g.length ≤ 8 ∧ N.r.length ≤ 14) ∧ k ≤ N.g.length ∧ ∀ i, i < k → flowM (gD N.g i) = true, meas := fun k => N.g.length - k, first := [(200, 1000)] }] else if id = 9 then some [{ α := Nat, dflt := 0, T := fun k => ⟨[(1, .bptr 200 0), (4, .int k)], [(200, begO N)]⟩, inv := fun k => (1 ≤ N.g.length ∧ N.g.length ≤ 8 ∧ N.r.length ≤ 14) ∧ k ≤ N.r.length ∧ checkL N = first0 (fun i => badR (netF N) (gD N.r i)) (N.r.length - k) k, meas := fun k => N.r.length - k }] else none }
def C45 : Ctr := { α := NetL, xs := fun N => [.d (eNetL N)], L := fun _ => [], val := fun N => .int (checkL N), keep := fun _ => [], pre := fun N => [sizeN N] }
def V45 (N : NetL) : Prop := fnVC Try.prog (A45 N) Try.f45 (bodyOf Try.f45) (C45.xs N) (heapOf []) (C45.val N) [] [] []
abbrev z45_0 (N : NetL) : Prop := N.g.length = N.g.length ∧ (∀ (i : Nat), i < N.g.length → (gD N.g i).lo = (gD N.g i).lo ∧ (gD N.g i).hi = (gD N.g i).hi) ∧ N.r.length = N.r.length ∧ ∀ (i : Nat), i < N.r.length → (gD N.r
 i).fr = (gD N.r i).fr ∧ (gD N.r i).to = (gD N.r i).to ∧ (gD N.r i).sp.lo = (gD N.r i).sp.lo ∧ (gD N.r i).sp.hi = (gD N.r i).sp.hi
abbrev z45_1 (a : Nat) (N : NetL) : Prop := (↑a : Int) = 0 ∧ z45_0 N
abbrev z45_2 (N : NetL) : Prop := 1 ≤ N.g.length ∧ N.g.length ≤ 8 ∧ N.r.length ≤ 14
abbrev z45_3 (N : NetL) (a : Nat) : Prop := z45_2 N ∧ a ≤ N.g.length ∧ ∀ (i : Nat), i < a → flowM (gD N.g i) = true
abbrev z45_4 (a : Nat) (N : NetL) : Prop := (↑a : Int) < (↑N.g.length : Int)
abbrev z45_5 (a : Nat) : Prop := 0 ≤ (↑a : Int)
abbrev z45_6 (a : Nat) (a1 : Nat) (N : NetL) : Prop := (↑a : Int) = IntKind.i64.wrap ((↑a1 : Int) + 1) ∧ z45_0 N
abbrev z45_7 (N : NetL) (a : Nat) : Nat := N.g.length - a
abbrev z45_8 (N : NetL) (a : Nat) : Nat := N.r.length - a
abbrev z45_9 (N : NetL) (a : Nat) : Prop := z45_2 N ∧ a ≤ N.r.length ∧ checkL N = first0 (fun (i : Nat) => badR (netF N) (gD N.r i)) (z45_8 N a) a
abbrev z45_10 (a : Nat) (N : NetL) : Prop := (↑a : Int) < (↑N.r.length : Int)
abbrev z45_11 (N : NetL) : Int := IntKind.i64.wrap ((↑N.g.length : Int) - 1)
theorem vc45 (N : NetL) : (V45 N) = (bif bif bif decide ((↑N.g.length : Int) < 1) then true else decide ((↑N.g.length : Int) > 8) then true else decide ((↑N.r.length : Int) > 14) then checkL N = 3 else (∃ (a : Nat),
 z45_1 a N ∧ z45_3 N a) ∧ ∀ (a : Nat), z45_3 N a → bif decide (z45_4 a N) then (z45_5 a ∧ z45_4 a N) ∧ bif !flowM (gD N.g a) then checkL N = 90 else ∃ (a_2 : Nat), z45_6 a_2 a N ∧ z45_3 N a_2 ∧ z45_7 N a_2 < z45_7 N a
 else (∃ (a : Nat), z45_1 a N ∧ z45_9 N a) ∧ ∀ (a : Nat), z45_9 N a → bif decide (z45_10 a N) then (z45_5 a ∧ z45_10 a N) ∧ bif bif bif !inM (gD N.r a).fr 0 (z45_11 N) then true else !inM (gD N.r a).to 0 (z45_11 N) then
 true else (gD N.r a).fr == (gD N.r a).to then checkL N = 2 else bif !flowM (gD N.r a).sp then checkL N = 90 else ∃ (a_3 : Nat), z45_6 a_3 a N ∧ z45_9 N a_3 ∧ z45_8 N a_3 < z45_8 N a else checkL N = 0) := by kernel_rfl
theorem bnot_t {p : Prop} [Decidable p] (h : ¬ p) : true = !decide p := by simp [h]
theorem bnot_f {p : Prop} [Decidable p] (h : p) : false = !decide p := by simp [h]
theorem bnot_t' {p : Prop} [Decidable p] (h : (!decide p) = true) : ¬ p := fun hp => by rw [decide_eq_true hp] at h; cases h
theorem bnot_f' {p : Prop} [Decidable p] (h : (!decide p) = false) : p := Decidable.byContradiction fun hp => by rw [decide_eq_false hp] at h; cases h
theorem checkL_many {N : NetL} (h : ¬ (1 ≤ N.g.length ∧ N.g.length ≤ 8 ∧ N.r.length ≤ 14)) : checkL N = 3 := by
  unfold checkL checkM
  rw [if_pos]
  have hg : ((netF N).nG : Int) = N.g.length := rfl
  have hr : (netF N).nR = N.r.length := rfl
  rw [hg, hr]
  simp only [Bool.or_eq_true, Bool.not_eq_true', decide_eq_true_eq, inM, Bool.and_eq_false_iff, decide_eq_false_iff_not]
  omega
theorem checkL_some {N : NetL} (h : 1 ≤ N.g.length ∧ N.g.length ≤ 8 ∧ N.r.length ≤ 14) : checkL N = if allB (fun i => flowM (gD N.g i)) N.g.length then first0 (fun i => badR (netF N) (gD N.r i)) N.r.length 0 else 90 := by
  unfold checkL checkM
  rw [if_neg]
  · rfl
  have hg : ((netF N).nG : Int) = N.g.length := rfl
  have hr : (netF N).nR = N.r.length := rfl
  rw [hg, hr]
  simp only [Bool.or_eq_true, Bool.not_eq_true', decide_eq_true_eq, inM, Bool.and_eq_false_iff, decide_eq_false_iff_not]
  omega
theorem p45 (N : NetL) (hs : sizeN N) : V45 N := by
  obtain ⟨hs1, hs2⟩ := hs
  rw [vc45]; delta z45_0 z45_1 z45_2 z45_3 z45_4 z45_5 z45_6 z45_7 z45_8 z45_9 z45_10 z45_11; simp only [condP, eq_self, implies_true, and_self, true_and, and_true, true_implies, forall_const, decide_eq_true_eq, decide_eq_false_iff_not, Int.toNat_natCast, dSpan_eSpan, dReach_eReach, dWay_eWay, dStep_eStep, dFar_eFar, dInt_eInt, Nat.zero_add, Int.zero_sub, Nat.le_eq, Nat.succ_eq_add_one, Nat.add_one_le_iff, Bool.not_eq_true', Bool.not_eq_false', rng_length, dSpan_mk, dReach_mk, dWay_mk, dStep_mk, dFar_mk, rng_getD, DL.d1, DL.d2, net_check]
  have e1 : (bif bif decide ((N.g.length : Int) < 1) then true else decide ((N.g.length : Int) > 8) then true else decide ((N.r.length : Int) > 14)) = !decide (1 ≤ N.g.length ∧ N.g.length ≤ 8 ∧ N.r.length ≤ 14) := by
    by_cases a : (N.g.length : Int) < 1 <;> by_cases b : (N.g.length : Int) > 8 <;> by_cases c : (N.r.length : Int) > 14 <;> simp only [a, b, c, decide_true, decide_false, cond_true, cond_false] <;> first | exact bnot_t (by omega) | exact bnot_f (by omega)
  rw [e1]
  refine ⟨fun hb => checkL_many (bnot_t' hb), fun hb => ?_⟩
  have hok : 1 ≤ N.g.length ∧ N.g.length ≤ 8 ∧ N.r.length ≤ 14 := bnot_f' hb
  refine ⟨⟨0, rfl, hok, Nat.zero_le _, fun i hi => by omega⟩, fun k ⟨_, q1, q2⟩ => ⟨fun hlt => ⟨⟨by omega, hlt⟩, fun hf => ?_, fun hf => ⟨k + 1, (wsucc (by omega)).symm, ⟨hok, by omega, fun i hi => ?_⟩, by omega⟩⟩, fun hge => ⟨⟨0, rfl, hok, Nat.zero_le _, ?_⟩, fun q ⟨_, q3, q4⟩ => ⟨fun hlt => ⟨⟨by omega, hlt⟩, fun hc => ?_, fun hc => ⟨fun hf => ?_, fun hf => ⟨q + 1, (wsucc (by omega)).symm, ⟨hok, by omega, ?_⟩, by omega⟩⟩⟩, fun hge => ?_⟩⟩⟩⟩
  · rw [checkL_some hok, if_neg]
    rw [allB_iff]; intro h
    rw [h k (by omega)] at hf; cases hf
  · by_cases he : i = k
    · subst he; exact hf
    · exact q2 i (by omega)
  · rw [checkL_some hok, if_pos (allB_iff.2 fun i hi => q2 i (by omega))]; rfl
  all_goals have hw : IntKind.i64.wrap ((N.g.length : Int) - 1) = (N.g.length : Int) - 1 := w64 (by omega) (by omega)
  all_goals have hq : (netF N).nG = N.g.length := rfl
  · rw [hw] at hc
    have e : badR (netF N) (gD N.r q) = 2 := by
      unfold badR; rw [hq, if_pos]; rw [← hc]
      cases inM (gD N.r q).fr 0 ((N.g.length : Int) - 1) <;> cases inM (gD N.r q).to 0 ((N.g.length : Int) - 1) <;> simp [Bool.beq_eq_decide_eq]
    rw [q4, first0_stop (by omega) (by rw [e]; decide), e]
  · rw [hw] at hc
    have e : badR (netF N) (gD N.r q) = 90 := by
      unfold badR; rw [hq, if_neg, hf]
      · rfl
      · rw [Bool.not_eq_true, ← hc]
        cases inM (gD N.r q).fr 0 ((N.g.length : Int) - 1) <;> cases inM (gD N.r q).to 0 ((N.g.length : Int) - 1) <;> simp [Bool.beq_eq_decide_eq]
    rw [q4, first0_stop (by omega) (by rw [e]; decide), e]
  · rw [hw] at hc
    have e : badR (netF N) (gD N.r q) = 0 := by
      unfold badR; rw [hq, if_neg, hf]
      · rfl
      · rw [Bool.not_eq_true, ← hc]
        cases inM (gD N.r q).fr 0 ((N.g.length : Int) - 1) <;> cases inM (gD N.r q).to 0 ((N.g.length : Int) - 1) <;> simp [Bool.beq_eq_decide_eq]
    rw [q4]; exact first0_go (by omega) e
  · rw [q4]; exact first0_end (by omega)
theorem ok45 : SpecOk Try.prog 45 (C45.spec d67) := okC C45 A45 [] [] Try.func45 (fun _ => by kernel_rfl) (fun _ => gok_cons ok60 (gok_cons ok82 gok_nil)) (fun N h => p45 N h) (fun _ => noI rfl rfl) _
theorem len_b (a b c d : Nat) : (bif ((a : Int) != (b : Int)) then true else ((c : Int) != (d : Int))) = !decide (a = b ∧ c = d) := by
  by_cases h1 : a = b
  · by_cases h2 : c = d
    · subst h1; subst h2; simp
    · have : (c : Int) ≠ d := by omega
      simp [h1, h2, this]
  · have : (a : Int) ≠ b := by omega
    simp [h1, this]
def askM (N : NetL) (T : TruthL) : Int := if checkL N = 0 then if T.f.length = N.r.length ∧ T.t.length = N.g.length then if allB (fun i => inM (gD T.f i) (-100000000) 100000000) T.f.length && allB (fun i => inM (gD T.t i) (-100000000) 100000000) T.t.length then 0 else 4 else 2 else checkL N
def sizeT (T : TruthL) : Prop := T.f.length ≤ 1000000 ∧ T.t.length ≤ 1000000
def C78 : Ctr := { α := NT, xs := fun a => [.d (eNetL a.N), .d (eTruthL a.T)], L := fun _ => [], val := fun a => .int (askM a.N a.T), keep := fun _ => [], pre := fun a => [sizeN a.N, sizeT a.T] }
def d78 : List AVal → Heap → Option (NT × List (Nat × Nat) × List Nat)
  | [.d x, .d (.agg [.list _ n f _, .list _ m g _])], _ => match decNet x with
    | some N => some (⟨N, rng n fun i => dInt (f i), rng m fun i => dInt (g i)⟩, [], [])
    | none => none
  | _, _ => none
def truO (T : TruthL) : HCell := .live (.box [.d (eIntsL T.f), .d (eIntsL T.t)])
def A83 (a : NT) : Ann := { ann 55 [(45, C45.spec d67), (60, s60)] with loops := fun id => if id = 7 then some [{ α := Nat, dflt := 0, T := fun k => ⟨[(3, .bptr 201 0), (6, .int k)], [(201, truO a.T)]⟩, inv := fun k => (checkL a.N = 0 ∧ a.T.f.length = a.N.r.length ∧ a.T.t.length = a.N.g.length) ∧ k ≤ a.T.f.length ∧ ∀ i, i < k → inM (gD a.T.f i) (-100000000) 100000000 = true, meas := fun k => a.T.f.length - k, first := [(201, 1016)] }] else if id = 12 then some [{ α := Nat, dflt := 0, T := fun k => ⟨[(3, .bptr 201 0), (7, .int k)], [(201, truO a.T)]⟩, inv := fun k => (checkL a.N = 0 ∧ a.T.f.length = a.N.r.length ∧ a.T.t.length = a.N.g.length) ∧ (∀ i, i < a.T.f.length → inM (gD a.T.f i) (-100000000) 100000000 = true) ∧ k ≤ a.T.t.length ∧ ∀ i, i < k → inM (gD a.T.t i) (-100000000) 100000000 = true, meas := fun k => a.T.t.length - k }] else none }
def V83 (a : NT) : Prop := fnVC Try.prog (A83 a) Try.f83 (bodyOf Try.f83) (C78.xs a) (heapOf []) (C78.val a) [] [] []
abbrev z83_0 (a : NT) : List Span := rng a.N.g.length fun (i : Nat) => gD a.N.g i
abbrev z83_1 (a : NT) : Nat := (z83_0 a).length
abbrev z83_2 (a : NT) (i : Nat) : Span := gD (z83_0 a) i
abbrev z83_3 (a : NT) : List Reach := rng a.N.r.length fun (i : Nat) => gD a.N.r i
abbrev z83_4 (a : NT) : Nat := (z83_3 a).length
abbrev z83_5 (a : NT) (i : Nat) : Reach := gD (z83_3 a) i
abbrev z83_6 (a : NT) (i : Nat) : Span := (z83_5 a i).sp
abbrev z83_7 (a : NT) : Int := checkL (NetL.mk (z83_0 a) (z83_3 a))
abbrev z83_8 (a : NT) : Prop := a.T.f.length = a.T.f.length ∧ (∀ (i : Nat), i < a.T.f.length → gD a.T.f i = gD a.T.f i) ∧ a.T.t.length = a.T.t.length ∧ ∀ (i : Nat), i < a.T.t.length → gD a.T.t i = gD a.T.t i
abbrev z83_9 (a : Nat) (a1 : NT) : Prop := (↑a : Int) = 0 ∧ z83_8 a1
abbrev z83_10 (a : NT) : Prop := checkL a.N = 0 ∧ a.T.f.length = a.N.r.length ∧ a.T.t.length = a.N.g.length
abbrev z83_11 (a : NT) (i : Nat) : Bool := inM (gD a.T.f i) (-100000000) 100000000
abbrev z83_12 (a : NT) (i : Nat) : Prop := z83_11 a i = true
abbrev z83_13 (a : NT) (a1 : Nat) : Prop := z83_10 a ∧ a1 ≤ a.T.f.length ∧ ∀ (i : Nat), i < a1 → z83_12 a i
abbrev z83_14 (a : Nat) (a1 : NT) : Prop := (↑a : Int) < (↑a1.T.f.length : Int)
abbrev z83_15 (a : Nat) : Prop := 0 ≤ (↑a : Int)
abbrev z83_16 (a : NT) : Prop := askM a.N a.T = 4
abbrev z83_17 (a : Nat) (a1 : Nat) (a2 : NT) : Prop := (↑a : Int) = IntKind.i64.wrap ((↑a1 : Int) + 1) ∧ z83_8 a2
abbrev z83_18 (a : NT) (a1 : Nat) : Nat := a.T.f.length - a1
abbrev z83_19 (a : NT) (i : Nat) : Bool := inM (gD a.T.t i) (-100000000) 100000000
abbrev z83_20 (a : NT) (a1 : Nat) : Prop := z83_10 a ∧ (∀ (i : Nat), i < a.T.f.length → z83_12 a i) ∧ a1 ≤ a.T.t.length ∧ ∀ (i : Nat), i < a1 → z83_19 a i = true
abbrev z83_21 (a : Nat) (a1 : NT) : Prop := (↑a : Int) < (↑a1.T.t.length : Int)
abbrev z83_22 (a : NT) (a1 : Nat) : Nat := a.T.t.length - a1
theorem vc83 (a : NT) : (V83 a) = ((z83_1 a = a.N.g.length ∧ (∀ (i : Nat), i < z83_1 a → (z83_2 a i).lo = (gD a.N.g i).lo ∧ (z83_2 a i).hi = (gD a.N.g i).hi) ∧ z83_4 a = a.N.r.length ∧ (∀ (i : Nat), i < z83_4 a → (z83_5
 a i).fr = (gD a.N.r i).fr ∧ (z83_5 a i).to = (gD a.N.r i).to ∧ (z83_6 a i).lo = (gD a.N.r i).sp.lo ∧ (z83_6 a i).hi = (gD a.N.r i).sp.hi) ∧ z83_1 a ≤ 1000000 ∧ z83_4 a ≤ 1000000) ∧ bif z83_7 a != 0 then askM a.N a.T =
 z83_7 a else bif bif (↑a.T.f.length : Int) != (↑a.N.r.length : Int) then true else (↑a.T.t.length : Int) != (↑a.N.g.length : Int) then askM a.N a.T = 2 else (∃ (a_1 : Nat), z83_9 a_1 a ∧ z83_13 a a_1) ∧ ∀ (a_1 : Nat),
 z83_13 a a_1 → bif decide (z83_14 a_1 a) then (z83_15 a_1 ∧ z83_14 a_1 a) ∧ bif !z83_11 a a_1 then z83_16 a else ∃ (a_3 : Nat), z83_17 a_3 a_1 a ∧ z83_13 a a_3 ∧ z83_18 a a_3 < z83_18 a a_1 else (∃ (a_3 : Nat), z83_9 a_3
 a ∧ z83_20 a a_3) ∧ ∀ (a_3 : Nat), z83_20 a a_3 → bif decide (z83_21 a_3 a) then (z83_15 a_3 ∧ z83_21 a_3 a) ∧ bif !z83_19 a a_3 then z83_16 a else ∃ (a_5 : Nat), z83_17 a_5 a_3 a ∧ z83_20 a a_5 ∧ z83_22 a a_5 < z83_22 a
 a_3 else askM a.N a.T = 0) := by kernel_rfl
theorem p83 (a : NT) (h1 : sizeN a.N) (h2 : sizeT a.T) : V83 a := by
  rw [vc83]; delta z83_0 z83_1 z83_2 z83_3 z83_4 z83_5 z83_6 z83_7 z83_8 z83_9 z83_10 z83_11 z83_12 z83_13 z83_14 z83_15 z83_16 z83_17 z83_18 z83_19 z83_20 z83_21 z83_22; simp only [condP, eq_self, implies_true, and_self, true_and, and_true, true_implies, forall_const, decide_eq_true_eq, decide_eq_false_iff_not, Int.toNat_natCast, dSpan_eSpan, dReach_eReach, dWay_eWay, dStep_eStep, dFar_eFar, dInt_eInt, Nat.zero_add, Int.zero_sub, Nat.le_eq, Nat.succ_eq_add_one, Nat.add_one_le_iff, Bool.not_eq_true', Bool.not_eq_false', rng_length, dSpan_mk, dReach_mk, dWay_mk, dStep_mk, dFar_mk, rng_getD, DL.d1, DL.d2, DL.d7, DL.d8, net_check]
  obtain ⟨t1, t2⟩ := h2
  rw [len_b]
  refine ⟨h1, fun hb => ?_, fun hb => ⟨fun hl => ?_, fun hl => ?_⟩⟩
  · have : checkL a.N ≠ 0 := by simpa using hb
    simp [askM, this]
  all_goals have hc : checkL a.N = 0 := by simpa using hb
  · have : ¬ (a.T.f.length = a.N.r.length ∧ a.T.t.length = a.N.g.length) := bnot_t' hl
    simp only [askM, hc, if_true, if_neg this]
  have hl : a.T.f.length = a.N.r.length ∧ a.T.t.length = a.N.g.length := bnot_f' hl
  have no1 : ∀ k, k < a.T.f.length → inM (gD a.T.f k) (-100000000) 100000000 = false → askM a.N a.T = 4 := fun k hk hf => by
    have : allB (fun i => inM (gD a.T.f i) (-100000000) 100000000) a.T.f.length = false := by
      rw [Bool.eq_false_iff]; intro h; rw [allB_iff.1 h k hk] at hf; cases hf
    simp only [askM, hc, if_true, if_pos hl, this, Bool.false_and, Bool.false_eq_true, if_false]
  have no2 : ∀ k, k < a.T.t.length → inM (gD a.T.t k) (-100000000) 100000000 = false → askM a.N a.T = 4 := fun k hk hf => by
    have : allB (fun i => inM (gD a.T.t i) (-100000000) 100000000) a.T.t.length = false := by
      rw [Bool.eq_false_iff]; intro h; rw [allB_iff.1 h k hk] at hf; cases hf
    simp only [askM, hc, if_true, if_pos hl, this, Bool.and_false, Bool.false_eq_true, if_false]
  refine ⟨⟨0, rfl, ⟨hc, hl⟩, Nat.zero_le _, fun i hi => by omega⟩, fun k ⟨_, q1, q2⟩ => ⟨fun hlt => ⟨⟨by omega, hlt⟩, fun hf => no1 k (by omega) hf, fun hf => ⟨k + 1, (wsucc (by omega)).symm, ⟨⟨hc, hl⟩, by omega, fun i hi => ?_⟩, by omega⟩⟩, fun hge => ⟨⟨0, rfl, ⟨hc, hl⟩, fun i hi => q2 i (by omega), Nat.zero_le _, fun i hi => by omega⟩, fun q ⟨_, q3, q4, q5⟩ => ⟨fun hlt => ⟨⟨by omega, hlt⟩, fun hf => no2 q (by omega) hf, fun hf => ⟨q + 1, (wsucc (by omega)).symm, ⟨⟨hc, hl⟩, q3, by omega, fun i hi => ?_⟩, by omega⟩⟩, fun hge => ?_⟩⟩⟩⟩
  · by_cases he : i = k
    · subst he; exact hf
    · exact q2 i (by omega)
  · by_cases he : i = q
    · subst he; exact hf
    · exact q5 i (by omega)
  · have e1 := (allB_iff (p := fun i => inM (gD a.T.f i) (-100000000) 100000000) (n := a.T.f.length)).2 fun i hi => q3 i hi
    have e2 := (allB_iff (p := fun i => inM (gD a.T.t i) (-100000000) 100000000) (n := a.T.t.length)).2 fun i hi => q5 i (by omega)
    simp only [askM, hc, if_true, if_pos hl, e1, e2, Bool.and_self]
theorem ok83 : SpecOk Try.prog 83 (C78.spec d78) := okC C78 A83 [] [] Try.func83 (fun _ => by kernel_rfl) (fun _ => gok_cons ok45 (gok_cons ok60 gok_nil)) (fun a h => p83 a h.1 h.2) (fun _ => noI rfl rfl) _
end Go.Bal
