/- Copies that are one's own; nets that are spoilt. -/
import Derived.Test.YtonddbmhljelgaaBalMk
set_option linter.unusedVariables false
set_option linter.unusedSimpArgs false
namespace Go.Bal
open Go Go.Sym Go.Proofs
def rowR (l : List Reach) : HCell := .live (.row 4 l.length fun i => eReach (gD l i))
def C52o : Ctr := { α := List Reach, xs := fun l => [.d (eReachesL l)], L := fun _ => [], val := fun l => .own 0 4 0 l.length, keep := fun l => [(0, rowR l)], pre := fun l => [0 < l.length ∧ l.length ≤ 1000] }
def A52o : Ann := { ann 7 [] with mt := fun _ => true }
def V52o (l : List Reach) : Prop := fnVC Try.prog A52o Try.f52 (bodyOf Try.f52) (C52o.xs l) (heapOf []) (C52o.val l) (C52o.keep l) [(0, 3032)] []
theorem vc52o (l : List Reach) : (V52o l) = (((True ∧ (0 < 0 → 0 = 4)) ∧ (True ∧ (0 < l.length → 4 = 4)) ∧ (true = true → 0 < l.length) ∧ 0 + l.length ≤ 9223372036854775807 ∧ (0 + l.length) * 32 ≤ 140737488355328) ∧ 0 =
 0 ∧ l.length = 0 + l.length ∧ l.length = 0 + l.length ∧ ∀ (i : Nat), i < l.length → (gD l i).fr = (gD l (i - 0)).fr ∧ (gD l i).to = (gD l (i - 0)).to ∧ (gD l i).sp.lo = (gD l (i - 0)).sp.lo ∧ (gD l i).sp.hi = (gD l (i -
 0)).sp.hi) := by kernel_rfl
def A15o := ann 10 [(51, C51.spec d51), (52, C52o.spec d52)]
def C15o : Ctr := { α := NetL, xs := fun N => [.d (eNetL N)], L := fun _ => [], val := fun N => .agg [.d (eSpansL N.g), .own 0 4 0 N.r.length], keep := fun N => [(0, rowR N.r)], pre := fun N => [N.g.length ≤ 1000000, 0 < N.r.length ∧ N.r.length ≤ 1000] }
def V15o (N : NetL) : Prop := fnVC Try.prog A15o Try.f15 (bodyOf Try.f15) (C15o.xs N) (heapOf []) (C15o.val N) (C15o.keep N) [(0, 2080)] []
theorem vc15o (N : NetL) : (V15o N) = (((rng N.g.length fun (i : Nat) => gD N.g i).length = N.g.length ∧ (∀ (i : Nat), i < (rng N.g.length fun (i : Nat) => gD N.g i).length → (gD (rng N.g.length fun (i : Nat) => gD N.g
 i) i).lo = (gD N.g i).lo ∧ (gD (rng N.g.length fun (i : Nat) => gD N.g i) i).hi = (gD N.g i).hi) ∧ (rng N.g.length fun (i : Nat) => gD N.g i).length ≤ 1000000 ∧ (rng N.r.length fun (i : Nat) => gD N.r i).length =
 N.r.length ∧ (∀ (i : Nat), i < (rng N.r.length fun (i : Nat) => gD N.r i).length → (gD (rng N.r.length fun (i : Nat) => gD N.r i) i).fr = (gD N.r i).fr ∧ (gD (rng N.r.length fun (i : Nat) => gD N.r i) i).to = (gD N.r
 i).to ∧ (gD (rng N.r.length fun (i : Nat) => gD N.r i) i).sp.lo = (gD N.r i).sp.lo ∧ (gD (rng N.r.length fun (i : Nat) => gD N.r i) i).sp.hi = (gD N.r i).sp.hi) ∧ 0 < (rng N.r.length fun (i : Nat) => gD N.r i).length ∧
 (rng N.r.length fun (i : Nat) => gD N.r i).length ≤ 1000) ∧ N.g.length = (rng N.g.length fun (i : Nat) => gD N.g i).length ∧ (∀ (i : Nat), i < N.g.length → (gD N.g i).lo = (gD (rng N.g.length fun (i : Nat) => gD N.g i)
 i).lo ∧ (gD N.g i).hi = (gD (rng N.g.length fun (i : Nat) => gD N.g i) i).hi) ∧ 0 = 0 ∧ N.r.length = (rng N.r.length fun (i : Nat) => gD N.r i).length ∧ N.r.length = (rng N.r.length fun (i : Nat) => gD N.r i).length ∧ ∀
 (i : Nat), i < N.r.length → (gD N.r i).fr = (gD (rng N.r.length fun (i : Nat) => gD N.r i) i).fr ∧ (gD N.r i).to = (gD (rng N.r.length fun (i : Nat) => gD N.r i) i).to ∧ (gD N.r i).sp.lo = (gD (rng N.r.length fun (i :
 Nat) => gD N.r i) i).sp.lo ∧ (gD N.r i).sp.hi = (gD (rng N.r.length fun (i : Nat) => gD N.r i) i).sp.hi) := by kernel_rfl
theorem p52o (l : List Reach) (h : 0 < l.length ∧ l.length ≤ 1000) : V52o l := by
  rw [vc52o]; simp only [condP, eq_self, implies_true, and_self, true_and, and_true, true_implies, forall_const, decide_eq_true_eq, decide_eq_false_iff_not, Int.toNat_natCast, dSpan_eSpan, dReach_eReach, dWay_eWay, dStep_eStep, dFar_eFar, dInt_eInt, Nat.zero_add, Int.zero_sub, Nat.le_eq, Nat.succ_eq_add_one, Nat.add_one_le_iff, Bool.not_eq_true', Bool.not_eq_false', rng_length, dSpan_mk, dReach_mk, dWay_mk, dStep_mk, dFar_mk, rng_getD]
  exact ⟨⟨fun h => absurd h (by decide), h.1, by omega, by omega⟩, fun _ _ => ⟨rfl, rfl, rfl, rfl⟩⟩
theorem p15o (N : NetL) (h1 : N.g.length ≤ 1000000) (h2 : 0 < N.r.length ∧ N.r.length ≤ 1000) : V15o N := by
  rw [vc15o]; simp only [condP, eq_self, implies_true, and_self, true_and, and_true, true_implies, forall_const, decide_eq_true_eq, decide_eq_false_iff_not, Int.toNat_natCast, dSpan_eSpan, dReach_eReach, dWay_eWay, dStep_eStep, dFar_eFar, dInt_eInt, Nat.zero_add, Int.zero_sub, Nat.le_eq, Nat.succ_eq_add_one, Nat.add_one_le_iff, Bool.not_eq_true', Bool.not_eq_false', rng_length, dSpan_mk, dReach_mk, dWay_mk, dStep_mk, dFar_mk, rng_getD]
  exact ⟨h1, h2⟩
theorem ok52o : SpecOk Try.prog 52 (C52o.spec d52) := okC C52o (fun _ => A52o) [(0, 3032)] [] Try.func52 (fun _ => by kernel_rfl) (fun _ => gok_nil) (fun l h => p52o l h) (fun _ => noI rfl rfl) _
theorem ok15o : SpecOk Try.prog 15 (C15o.spec d67) := okC C15o (fun _ => A15o) [(0, 2080)] [] Try.func15 (fun _ => by kernel_rfl) (fun _ => gok_cons ok51 (gok_cons ok52o gok_nil)) (fun N h => p15o N h.1 h.2) (fun _ => noI rfl rfl) _
end Go.Bal
