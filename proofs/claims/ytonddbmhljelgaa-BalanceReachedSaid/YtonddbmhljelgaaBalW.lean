/- The statements' helpers of package balance. -/
import Derived.Test.YtonddbmhljelgaaBalU
set_option linter.unusedVariables false
set_option linter.unusedSimpArgs false
namespace Go.Bal
open Go Go.Sym Go.Proofs
def V50 (a b : Int) : Prop := fnVC Try.prog (ann 8 []) Try.f50 (bodyOf Try.f50) [.int a, .int b] (heapOf []) (.d (eSpan ⟨a, b⟩)) [] [] []
theorem vc50 (a : Int) (b : Int) : (V50 a b) = (a = a ∧ b = b) := by kernel_rfl
def f50 : List AVal → Option (AVal × List Prop)
  | [.d (.v (.int .i64 a)), .d (.v (.int .i64 b))] => some (.d (eSpan ⟨a, b⟩), [])
  | _ => none
def s50 := pureSpec f50
theorem ok50 : SpecOk Try.prog 50 s50 := pureSpec_ok fun xs v p h _ => by
  unfold f50 at h; split at h
  · cases h; exact fnt (A := ann 8 []) (ren := []) (fz := []) Try.func50 (by kernel_rfl) gok_nil (by show V50 _ _; rw [vc50]; exact ⟨rfl, rfl⟩)
  · cases h
def threeN (lo hi : Int) : NetL := ⟨[⟨100, 120⟩, ⟨0, 10⟩, ⟨-200, -100⟩], [⟨0, 1, ⟨90, 115⟩⟩, ⟨1, 2, ⟨lo, hi⟩⟩]⟩
def A49 := ann 17 [(50, s50)]
def C49 : Ctr := { α := Span, xs := fun s => [.int s.lo, .int s.hi], L := fun _ => [], val := fun s => .d (eNetL (threeN s.lo s.hi)), keep := fun _ => [] }
def d49 : List AVal → Heap → Option (Span × List (Nat × Nat) × List Nat)
  | [.d (.v (.int _ a)), .d (.v (.int _ b))], _ => some (⟨a, b⟩, [], [])
  | _, _ => none
def V49 (s : Span) : Prop := fnVC Try.prog A49 Try.f49 (bodyOf Try.f49) (C49.xs s) (heapOf []) (C49.val s) [] [] [2048, 2160]
theorem vc49 (s : Span) : (V49 s) = ((threeN s.lo s.hi).g.length = 3 ∧ 3 ≤ 3 ∧ (∀ (j : Nat), j < (threeN s.lo s.hi).g.length → ((gD (threeN s.lo s.hi).g j).lo = bif decide (0 + j = 0) then 100 else bif decide (0 + j - 1
 = 0) then 0 else -200) ∧ (gD (threeN s.lo s.hi).g j).hi = bif decide (0 + j = 0) then 120 else bif decide (0 + j - 1 = 0) then 10 else -100) ∧ (threeN s.lo s.hi).r.length = 2 ∧ 2 ≤ 2 ∧ ∀ (j : Nat), j < (threeN s.lo
 s.hi).r.length → ((gD (threeN s.lo s.hi).r j).fr = bif decide (0 + j = 0) then 0 else 1) ∧ ((gD (threeN s.lo s.hi).r j).to = bif decide (0 + j = 0) then 1 else 2) ∧ ((gD (threeN s.lo s.hi).r j).sp.lo = bif decide (0 + j
 = 0) then 90 else s.lo) ∧ (gD (threeN s.lo s.hi).r j).sp.hi = bif decide (0 + j = 0) then 115 else s.hi) := by kernel_rfl
theorem p49 (s : Span) : V49 s := by
  rw [vc49]; simp only [condP, eq_self, implies_true, and_self, true_and, and_true, true_implies, forall_const, decide_eq_true_eq, decide_eq_false_iff_not, Int.toNat_natCast, dSpan_eSpan, dReach_eReach, dWay_eWay, dStep_eStep, dFar_eFar, dInt_eInt, Nat.zero_add, Int.zero_sub, Nat.le_eq, Nat.succ_eq_add_one, Nat.add_one_le_iff, Bool.not_eq_true', Bool.not_eq_false', rng_length, dSpan_mk, dReach_mk, dWay_mk, dStep_mk, dFar_mk, rng_getD]
  refine ⟨rfl, by decide, fun j hj => ?_, rfl, by decide, fun j hj => ?_⟩
  · have hj : j < 3 := hj
    match j, hj with
    | 0, _ => exact ⟨rfl, rfl⟩
    | 1, _ => exact ⟨rfl, rfl⟩
    | 2, _ => exact ⟨rfl, rfl⟩
  · have hj : j < 2 := hj
    match j, hj with
    | 0, _ => exact ⟨rfl, rfl, rfl, rfl⟩
    | 1, _ => exact ⟨rfl, rfl, rfl, rfl⟩
theorem ok49 : SpecOk Try.prog 49 (C49.spec d49) := okC C49 (fun _ => A49) [] [2048, 2160] Try.func49 (fun _ => by kernel_rfl) (fun _ => gok_cons ok50 gok_nil) (fun s _ => p49 s) (fun _ => noI rfl rfl) _
def sizeN (N : NetL) : Prop := N.g.length ≤ 1000000 ∧ N.r.length ≤ 1000000
end Go.Bal

namespace Go.Bal
open Go Go.Sym Go.Proofs
theorem bnot_t' {p : Prop} [Decidable p] (h : (!decide p) = true) : ¬ p := fun hp => by rw [decide_eq_true hp] at h; cases h
theorem bnot_f' {p : Prop} [Decidable p] (h : (!decide p) = false) : p := Decidable.byContradiction fun hp => by rw [decide_eq_false hp] at h; cases h
theorem checkL_some {N : NetL} (h : 1 ≤ N.g.length ∧ N.g.length ≤ 8 ∧ N.r.length ≤ 14) : checkL N = if allB (fun i => flowM (gD N.g i)) N.g.length then first0 (fun i => badR (netF N) (gD N.r i)) N.r.length 0 else 90 := by
  unfold checkL checkM
  rw [if_neg]
  · rfl
  have hg : ((netF N).nG : Int) = N.g.length := rfl
  have hr : (netF N).nR = N.r.length := rfl
  rw [hg, hr]
  simp only [Bool.or_eq_true, Bool.not_eq_true', decide_eq_true_eq, inM, Bool.and_eq_false_iff, decide_eq_false_iff_not]
  omega
theorem len_b (a b c d : Nat) : (bif ((a : Int) != (b : Int)) then true else ((c : Int) != (d : Int))) = !decide (a = b ∧ c = d) := by
  by_cases h1 : a = b
  · by_cases h2 : c = d
    · subst h1; subst h2; simp
    · have : (c : Int) ≠ d := by omega
      simp [h1, h2, this]
  · have : (a : Int) ≠ b := by omega
    simp [h1, this]
def askM (N : NetL) (T : TruthL) : Int := if checkL N = 0 then if T.f.length = N.r.length ∧ T.t.length = N.g.length then if allB (fun i => inM (gD T.f i) (-100000000) 100000000) T.f.length && allB (fun i => inM (gD T.t i) (-100000000) 100000000) T.t.length then 0 else 4 else 2 else checkL N
def sizeT (T : TruthL) : Prop := T.f.length ≤ 1000000 ∧ T.t.length ≤ 1000000
def C78 : Ctr := { α := NT, xs := fun a => [.d (eNetL a.N), .d (eTruthL a.T)], L := fun _ => [], val := fun a => .int (askM a.N a.T), keep := fun _ => [], pre := fun a => [sizeN a.N, sizeT a.T] }
def d78 : List AVal → Heap → Option (NT × List (Nat × Nat) × List Nat)
  | [.d x, .d (.agg [.list _ n f _, .list _ m g _])], _ => match decNet x with
    | some N => some (⟨N, rng n fun i => dInt (f i), rng m fun i => dInt (g i)⟩, [], [])
    | none => none
  | _, _ => none
def A78 := ann 43 [(44, s44), (64, C64c102.spec dec64)]
def V78 (a : NT) : Prop := fnVC Try.prog A78 Try.f78 (bodyOf Try.f78) (C78.xs a) (heapOf []) (C78.val a) [] [] []
theorem vc78 (a : NT) : (V78 a) = (((∀ (i : Nat), i < a.N.g.length → True) ∧ ∀ (i : Nat), i < a.N.r.length → True) ∧ bif checkM (Net.mk a.N.g.length (fun (i : Nat) => gD a.N.g i) a.N.r.length fun (i : Nat) => gD a.N.r i)
 != 0 then askM a.N a.T = checkM (Net.mk a.N.g.length (fun (i : Nat) => gD a.N.g i) a.N.r.length fun (i : Nat) => gD a.N.r i) else bif bif (↑a.T.f.length : Int) != (↑a.N.r.length : Int) then true else (↑a.T.t.length :
 Int) != (↑a.N.g.length : Int) then askM a.N a.T = 2 else ((rng a.T.f.length fun (i : Nat) => gD a.T.f i).length = a.T.f.length ∧ (∀ (i : Nat), i < (rng a.T.f.length fun (i : Nat) => gD a.T.f i).length → gD (rng
 a.T.f.length fun (i : Nat) => gD a.T.f i) i = gD a.T.f i) ∧ decide ((rng a.T.f.length fun (i : Nat) => gD a.T.f i).length < 4611686018427387904) = true ∧ ((!!allB (fun (i : Nat) => inM (gD (rng a.T.f.length fun (i : Nat)
 => gD a.T.f i) i) (-100000000) 100000000) (rng a.T.f.length fun (i : Nat) => gD a.T.f i).length) = true → (rng a.T.t.length fun (i : Nat) => gD a.T.t i).length = a.T.t.length ∧ (∀ (i : Nat), i < (rng a.T.t.length fun (i
 : Nat) => gD a.T.t i).length → gD (rng a.T.t.length fun (i : Nat) => gD a.T.t i) i = gD a.T.t i) ∧ decide ((rng a.T.t.length fun (i : Nat) => gD a.T.t i).length < 4611686018427387904) = true)) ∧ bif bif !allB (fun (i :
 Nat) => inM (gD (rng a.T.f.length fun (i : Nat) => gD a.T.f i) i) (-100000000) 100000000) (rng a.T.f.length fun (i : Nat) => gD a.T.f i).length then true else !allB (fun (i : Nat) => inM (gD (rng a.T.t.length fun (i :
 Nat) => gD a.T.t i) i) (-100000000) 100000000) (rng a.T.t.length fun (i : Nat) => gD a.T.t i).length then askM a.N a.T = 4 else askM a.N a.T = 0) := by kernel_rfl
def truO (T : TruthL) : HCell := .live (.box [.d (eIntsL T.f), .d (eIntsL T.t)])
theorem p78 (a : NT) (h1 : sizeN a.N) (h2 : sizeT a.T) : V78 a := by
  rw [vc78]; simp only [condP, eq_self, implies_true, and_self, true_and, and_true, true_implies, forall_const, decide_eq_true_eq, decide_eq_false_iff_not, Int.toNat_natCast, dSpan_eSpan, dReach_eReach, dWay_eWay, dStep_eStep, dFar_eFar, dInt_eInt, Nat.zero_add, Int.zero_sub, Nat.le_eq, Nat.succ_eq_add_one, Nat.add_one_le_iff, Bool.not_eq_true', Bool.not_eq_false', rng_length, dSpan_mk, dReach_mk, dWay_mk, dStep_mk, dFar_mk, rng_getD, DL.d1, DL.d2, DL.d7, DL.d8, net_check]
  obtain ⟨t1, t2⟩ := h2
  obtain ⟨n1, n2⟩ := h1
  rw [len_b]
  refine ⟨fun hb => ?_, fun hb => ⟨fun hl => ?_, fun hl => ⟨⟨by omega, fun _ => by omega⟩, fun h4 => ?_, fun h5 => ?_⟩⟩⟩
  · have : checkL a.N ≠ 0 := by simpa using hb
    simp only [askM, if_neg this]
  all_goals have hc : checkL a.N = 0 := by simpa using hb
  · simp only [askM, hc, if_true, if_neg (bnot_t' hl)]
  all_goals simp only [askM, hc, if_true, if_pos (bnot_f' hl)]
  · cases hf : allB (fun i => inM (gD a.T.f i) (-100000000) 100000000) a.T.f.length <;> cases hg : allB (fun i => inM (gD a.T.t i) (-100000000) 100000000) a.T.t.length <;> rw [hf, hg] at h4 <;> first | rfl | cases h4
  · cases hf : allB (fun i => inM (gD a.T.f i) (-100000000) 100000000) a.T.f.length <;> cases hg : allB (fun i => inM (gD a.T.t i) (-100000000) 100000000) a.T.t.length <;> rw [hf, hg] at h5 <;> first | rfl | cases h5
theorem ok78 : SpecOk Try.prog 78 (C78.spec d78) := okC C78 (fun _ => A78) [] [] Try.func78 (fun _ => by kernel_rfl) (fun _ => gok_cons ok44 (gok_cons ok64c102 gok_nil)) (fun a h => p78 a h.1 h.2) (fun _ => noI rfl rfl) _
end Go.Bal
