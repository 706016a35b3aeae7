/- Package balance: every over numbers. Printed by genpred.py. -/
import Derived.Test.YtonddbmhljelgaaBalO
set_option linter.unusedVariables false
set_option linter.unusedSimpArgs false
namespace Go.Bal
open Go Go.Sym Go.Proofs
def dec64 : List AVal → Heap → Option (List Int × List (Nat × Nat) × List Nat)
  | [.d (.list _ n g _), .fn _ _ []], _ => some (rng n fun i => dInt (g i), [], [])
  | _, _ => none
def dec95 : List AVal → Heap → Option (List Int × List (Nat × Nat) × List Nat)
  | [.d (.list _ n g _), .fn _ _ [.bptr id _]], _ => some (rng n fun i => dInt (g i), [(100, id)], [])
  | _, _ => none
def dec90 : List AVal → Heap → Option (Int × List (Nat × Nat) × List Nat)
  | [.d d, .bptr id _], _ => some (dInt d, [(100, id)], [])
  | _, _ => none
theorem every_int {l : List Int} {a b : Int} : (!decide (0 ≤ idx (fun i => !inM (gD l i) a b) l.length 0)) = allB (fun i => inM (gD l i) a b) l.length := every_eq
def V61 (x : Int) : Prop := fnVC Try.prog (ann 5 [(62, s62)]) Try.f61 (bodyOf Try.f61) [.int x] (heapOf []) (.bool (inM x (-1) 1)) [] [] []
theorem vc61 (x : Int) : (V61 x) = (inM x (-1) 1 = inM x (-1) 1) := by kernel_rfl
def f61 : List AVal → Option (AVal × List Prop)
  | [.d (.v (.int .i64 x))] => some (.bool (inM x (-1) 1), [])
  | _ => none
def s61 := pureSpec f61
theorem ok61 : SpecOk Try.prog 61 s61 := pureSpec_ok fun xs v p h _ => by
  unfold f61 at h; split at h
  · cases h; exact fnt (A := ann 5 [(62, s62)]) (ren := []) (fz := []) Try.func61 (by kernel_rfl) (gok_cons ok62 gok_nil) (by show V61 _; rw [vc61])
  · cases h
def Bc61 : AObj := .box [.fn (.func 61) [] []]
def C90c61 : Ctr := { ro := [100], α := Int, xs := fun x => [.int x, .bptr 100 0], L := fun _ => [(100, Bc61)], val := fun x => .bool (!inM x (-1) 1), keep := fun _ => [(100, .live Bc61)] }
def A90c61 := { ann 8 [(61, s61)] with E := [100] }
def V90c61 (x : Int) : Prop := fnVC Try.prog A90c61 Try.f90 (bodyOf Try.f90) (C90c61.xs x) (heapOf (C90c61.L x)) (C90c61.val x) (C90c61.keep x) [] []
theorem vc90c61 (x : Int) : (V90c61 x) = ((!inM x (-1) 1) = !inM x (-1) 1) := by kernel_rfl
theorem p90c61 (x : Int) : V90c61 x := by rw [vc90c61]
theorem ok90c61 : SpecOk Try.prog 90 (C90c61.spec dec90) := Ctr.spec_ok (C := C90c61) (fun (x : Int) _ => fnt (A := A90c61) (ren := []) (fz := []) Try.func90 (by kernel_rfl) (gok_cons ok61 gok_nil) (p90c61 x)) _
def A95c61 (l : List Int) : Ann := { ann 19 [(90, C90c61.spec dec90)] with E := [100], loops := fun id => if id = 2 then some [{ α := Nat, dflt := 0, T := fun k => ⟨[(0, .d (eIntsL l)), (1, .fn (.func 90) [] [.bptr 100 0]), (7, .int l.length), (8, .int k)], [(100, .live Bc61)]⟩, inv := fun k => k ≤ l.length ∧ idx (fun i => !inM (gD l i) (-1) 1) l.length 0 = idx (fun i => !inM (gD l i) (-1) 1) (l.length - k) k, meas := fun k => l.length - k }] else none }
def C95c61 : Ctr := { ro := [100], α := List Int, xs := fun l => [.d (eIntsL l), .fn (.func 90) [] [.bptr 100 0]], L := fun _ => [(100, Bc61)], val := fun l => .int (idx (fun i => !inM (gD l i) (-1) 1) l.length 0), keep := fun _ => [(100, .live Bc61)], pre := fun l => [decide (l.length < 4611686018427387904) = true] }
def V95c61 (l : List Int) : Prop := fnVC Try.prog (A95c61 l) Try.f95 (bodyOf Try.f95) (C95c61.xs l) (heapOf (C95c61.L l)) (C95c61.val l) (C95c61.keep l) [] []
theorem vc95c61 (l : List Int) : (V95c61 l) = ((∃ (a : Nat), (l.length = l.length ∧ (∀ (i : Nat), i < l.length → gD l i = gD l i) ∧ (↑l.length : Int) = (↑l.length : Int) ∧ (↑a : Int) = 0) ∧ a ≤ l.length ∧ idx (fun (i :
 Nat) => !inM (gD l i) (-1) 1) l.length 0 = idx (fun (i : Nat) => !inM (gD l i) (-1) 1) (l.length - a) a) ∧ ∀ (a : Nat), a ≤ l.length ∧ idx (fun (i : Nat) => !inM (gD l i) (-1) 1) l.length 0 = idx (fun (i : Nat) => !inM
 (gD l i) (-1) 1) (l.length - a) a → bif decide ((↑a : Int) < (↑l.length : Int)) then ((0 ≤ (↑a : Int) ∧ (↑a : Int) < (↑l.length : Int)) ∧ gD l a = gD l a) ∧ bif !inM (gD l a) (-1) 1 then idx (fun (i : Nat) => !inM (gD l
 i) (-1) 1) l.length 0 = (↑a : Int) else ∃ (a_2 : Nat), (l.length = l.length ∧ (∀ (i : Nat), i < l.length → gD l i = gD l i) ∧ (↑l.length : Int) = (↑l.length : Int) ∧ (↑a_2 : Int) = IntKind.i64.wrap ((↑a : Int) + 1)) ∧
 (a_2 ≤ l.length ∧ idx (fun (i : Nat) => !inM (gD l i) (-1) 1) l.length 0 = idx (fun (i : Nat) => !inM (gD l i) (-1) 1) (l.length - a_2) a_2) ∧ l.length - a_2 < l.length - a else idx (fun (i : Nat) => !inM (gD l i) (-1)
 1) l.length 0 = -1) := by kernel_rfl
theorem p95c61 (l : List Int) (h : l.length < 4611686018427387904) : V95c61 l := by
  rw [vc95c61]
  simp only [condP, eq_self, implies_true, and_self, true_and, and_true, true_implies, forall_const, decide_eq_true_eq, decide_eq_false_iff_not, Int.toNat_natCast, dSpan_eSpan, dReach_eReach, dWay_eWay, dStep_eStep, dFar_eFar, dInt_eInt, Nat.zero_add, Int.zero_sub, Nat.le_eq, Nat.succ_eq_add_one, Nat.add_one_le_iff, Bool.not_eq_true', Bool.not_eq_false', rng_length, dSpan_mk, dReach_mk, dWay_mk, dStep_mk, dFar_mk, rng_getD]
  refine ⟨⟨0, rfl, Nat.zero_le _, rfl⟩, fun k ⟨h1, h2⟩ => ⟨fun hlt => ?_, fun hge => ?_⟩⟩
  · have hlt : k < l.length := by omega
    refine ⟨⟨by omega, by omega⟩, fun hp => ?_, fun hp => ⟨k + 1, (wsucc (by omega)).symm, ⟨by omega, ?_⟩, by omega⟩⟩
    · rw [h2]; exact idx_stop hlt (by simpa using hp)
    · rw [h2]; exact idx_go hlt (by simpa using hp)
  · rw [h2]; exact idx_end (by omega)
theorem ok95c61 : SpecOk Try.prog 95 (C95c61.spec dec95) := okC C95c61 A95c61 [] [] Try.func95 (fun _ => by kernel_rfl) (fun _ => gok_cons ok90c61 gok_nil) (fun a h => p95c61 a (of_decide_eq_true h)) (fun _ => noI rfl rfl) _
def C89c61 : Ctr := { C95c61 with val := fun (l : List Int) => .bool (decide (idx (fun i => !inM (gD l i) (-1) 1) l.length 0 ≥ 0)) }
def dec89c61 : List AVal → Heap → Option (C89c61.α × List (Nat × Nat) × List Nat) := dec95
def A89c61 := { ann 9 [(95, C95c61.spec dec95)] with E := [100] }
def V89c61 (l : List Int) : Prop := fnVC Try.prog A89c61 Try.f89 (bodyOf Try.f89) (C89c61.xs l) (heapOf (C89c61.L l)) (C89c61.val l) (C89c61.keep l) [] []
theorem vc89c61 (l : List Int) : (V89c61 l) = (((rng l.length fun (i : Nat) => gD l i).length = l.length ∧ (∀ (i : Nat), i < (rng l.length fun (i : Nat) => gD l i).length → gD (rng l.length fun (i : Nat) => gD l i) i =
 gD l i) ∧ decide ((rng l.length fun (i : Nat) => gD l i).length < 4611686018427387904) = true) ∧ decide (idx (fun (i : Nat) => !inM (gD l i) (-1) 1) l.length 0 ≥ 0) = decide (idx (fun (i : Nat) => !inM (gD (rng l.length
 fun (i : Nat) => gD l i) i) (-1) 1) (rng l.length fun (i : Nat) => gD l i).length 0 ≥ 0)) := by kernel_rfl
theorem p89c61 (l : List Int) (h : l.length < 4611686018427387904) : V89c61 l := by
  rw [vc89c61]; simp [h, rng_getD]
theorem ok89c61 : SpecOk Try.prog 89 (C89c61.spec dec89c61) := Ctr.spec_ok (C := C89c61) (fun (l : List Int) h => fnt (A := A89c61) (ren := []) (fz := []) Try.func89 (by kernel_rfl) (gok_cons ok95c61 gok_nil) (p89c61 l (of_decide_eq_true h))) _
def A64c61 := ann 9 [(89, C89c61.spec dec89c61)]
def C64c61 : Ctr := { α := List Int, xs := fun l => [.d (eIntsL l), .fn (.func 61) [] []], L := fun _ => [], val := fun l => .bool (allB (fun i => inM (gD l i) (-1) 1) l.length), keep := fun _ => [], pre := fun l => [decide (l.length < 4611686018427387904) = true] }
def V64c61 (l : List Int) : Prop := fnVC Try.prog A64c61 Try.f64 (bodyOf Try.f64) (C64c61.xs l) (heapOf []) (C64c61.val l) [] [] []
theorem vc64c61 (l : List Int) : (V64c61 l) = (((rng l.length fun (i : Nat) => gD l i).length = l.length ∧ (∀ (i : Nat), i < (rng l.length fun (i : Nat) => gD l i).length → gD (rng l.length fun (i : Nat) => gD l i) i =
 gD l i) ∧ decide ((rng l.length fun (i : Nat) => gD l i).length < 4611686018427387904) = true) ∧ allB (fun (i : Nat) => inM (gD l i) (-1) 1) l.length = !decide (idx (fun (i : Nat) => !inM (gD (rng l.length fun (i : Nat)
 => gD l i) i) (-1) 1) (rng l.length fun (i : Nat) => gD l i).length 0 ≥ 0)) := by kernel_rfl
theorem p64c61 (l : List Int) (h : l.length < 4611686018427387904) : V64c61 l := by
  rw [vc64c61]; simp only [condP, eq_self, implies_true, and_self, true_and, and_true, true_implies, forall_const, decide_eq_true_eq, decide_eq_false_iff_not, Int.toNat_natCast, dSpan_eSpan, dReach_eReach, dWay_eWay, dStep_eStep, dFar_eFar, dInt_eInt, Nat.zero_add, Int.zero_sub, Nat.le_eq, Nat.succ_eq_add_one, Nat.add_one_le_iff, Bool.not_eq_true', Bool.not_eq_false', rng_length, dSpan_mk, dReach_mk, dWay_mk, dStep_mk, dFar_mk, rng_getD, ge_iff_le, every_int, h]
theorem ok64c61 : SpecOk Try.prog 64 (C64c61.spec dec64) := Ctr.spec_ok (C := C64c61) (fun (l : List Int) h => fnt (A := A64c61) (L := []) (keep := []) (ren := []) (fz := []) Try.func64 (by kernel_rfl) (gok_cons ok89c61 gok_nil) (p64c61 l (of_decide_eq_true h))) _
end Go.Bal
