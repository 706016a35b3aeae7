/- Package balance: Proves. -/
import Derived.Test.YtonddbmhljelgaaBalP
set_option linter.unusedVariables false
set_option linter.unusedSimpArgs false
namespace Go.Bal
open Go Go.Sym Go.Proofs
structure LR where
  lv : List Int
  r : Reach
def riseM (lv : List Int) (r : Reach) : Int := wr (gD lv r.to.toNat - gD lv r.fr.toNat)
def nearM (lv : List Int) (r : Reach) : Bool := inM (riseM lv r) (-1) 1
def capN (lv : List Int) : List (Nat × AObj) := [(110, .box [.fn (.func 61) [] []]), (111, .box [.d (eIntsL lv)])]
def fn63 : AVal := .fn (.func 63) [] [.bptr 110 0, .bptr 111 0]
def inR (n : Nat) (r : Reach) : Prop := (0 ≤ r.to ∧ r.to < n) ∧ 0 ≤ r.fr ∧ r.fr < n
def A63 := { ann 18 [(61, s61)] with E := [110, 111] }
def C63 : Ctr := { ro := [110, 111], α := LR, xs := fun a => [.d (eReach a.r), .bptr 110 0, .bptr 111 0], L := fun a => capN a.lv, val := fun a => .bool (nearM a.lv a.r), keep := fun a => lives (capN a.lv), pre := fun a => [inR a.lv.length a.r] }
def d63 : List AVal → Heap → Option (LR × List (Nat × Nat) × List Nat)
  | [.d r, .bptr p _, .bptr q _], H => match H q with
    | .live (.box [.d (.list _ n g _)]) => some (⟨rng n fun i => dInt (g i), dReach r⟩, [(110, p), (111, q)], [])
    | _ => none
  | _, _ => none
def V63 (a : LR) : Prop := fnVC Try.prog A63 Try.f63 (bodyOf Try.f63) (C63.xs a) (heapOf (C63.L a)) (C63.val a) (C63.keep a) [] []
theorem vc63 (a : LR) : (V63 a) = (((0 ≤ a.r.to ∧ a.r.to < (↑a.lv.length : Int)) ∧ 0 ≤ a.r.fr ∧ a.r.fr < (↑a.lv.length : Int)) ∧ nearM a.lv a.r = inM (IntKind.i64.wrap (gD a.lv a.r.to.toNat - gD a.lv a.r.fr.toNat)) (-1)
 1 ∧ a.lv.length = a.lv.length ∧ ∀ (i : Nat), i < a.lv.length → gD a.lv i = gD a.lv i) := by kernel_rfl
theorem p63 (a : LR) (h : inR a.lv.length a.r) : V63 a := by
  rw [vc63]; simp only [condP, eq_self, implies_true, and_self, true_and, and_true, true_implies, forall_const, decide_eq_true_eq, decide_eq_false_iff_not, Int.toNat_natCast, dSpan_eSpan, dReach_eReach, dWay_eWay, dStep_eStep, dFar_eFar, dInt_eInt, Nat.zero_add, Int.zero_sub, Nat.le_eq, Nat.succ_eq_add_one, Nat.add_one_le_iff, Bool.not_eq_true', Bool.not_eq_false', rng_length, dSpan_mk, dReach_mk, dWay_mk, dStep_mk, dFar_mk, rng_getD]
  exact ⟨h, rfl⟩
theorem ok63 : SpecOk Try.prog 63 (C63.spec d63) := okC C63 (fun _ => A63) [] [] Try.func63 (fun _ => by kernel_rfl) (fun _ => gok_cons ok61 gok_nil) (fun a h => p63 a h) (fun _ => noI rfl rfl) _
def B92 : List (Nat × AObj) := [(100, .box [fn63])]
def A92 := { ann 8 [(63, C63.spec d63)] with E := [100, 110, 111] }
def C92 : Ctr := { ro := [100, 110, 111], α := LR, xs := fun a => [.d (eReach a.r), .bptr 100 0], L := fun a => B92 ++ capN a.lv, val := fun a => .bool (!nearM a.lv a.r), keep := fun a => lives (B92 ++ capN a.lv), pre := fun a => [inR a.lv.length a.r] }
def d92 : List AVal → Heap → Option (LR × List (Nat × Nat) × List Nat)
  | [.d r, .bptr o _], H => match H o with
    | .live (.box [.fn _ _ [.bptr p _, .bptr q _]]) => match H q with
      | .live (.box [.d (.list _ n g _)]) => some (⟨rng n fun i => dInt (g i), dReach r⟩, [(100, o), (110, p), (111, q)], [])
      | _ => none
    | _ => none
  | _, _ => none
def V92 (a : LR) : Prop := fnVC Try.prog A92 Try.f92 (bodyOf Try.f92) (C92.xs a) (heapOf (C92.L a)) (C92.val a) (C92.keep a) [] []
theorem vc92 (a : LR) : (V92 a) = ((a.r.fr = a.r.fr ∧ a.r.to = a.r.to ∧ a.r.sp.lo = a.r.sp.lo ∧ a.r.sp.hi = a.r.sp.hi ∧ (rng a.lv.length fun (i : Nat) => gD a.lv i).length = a.lv.length ∧ (∀ (i : Nat), i < (rng
 a.lv.length fun (i : Nat) => gD a.lv i).length → gD (rng a.lv.length fun (i : Nat) => gD a.lv i) i = gD a.lv i) ∧ a.lv.length = (rng a.lv.length fun (i : Nat) => gD a.lv i).length ∧ (∀ (i : Nat), i < a.lv.length → gD
 a.lv i = gD (rng a.lv.length fun (i : Nat) => gD a.lv i) i) ∧ (0 ≤ a.r.to ∧ a.r.to < (↑(rng a.lv.length fun (i : Nat) => gD a.lv i).length : Int)) ∧ 0 ≤ a.r.fr ∧ a.r.fr < (↑(rng a.lv.length fun (i : Nat) => gD a.lv
 i).length : Int)) ∧ (!nearM a.lv a.r) = !nearM (rng a.lv.length fun (i : Nat) => gD a.lv i) a.r ∧ a.lv.length = a.lv.length ∧ ∀ (i : Nat), i < a.lv.length → gD a.lv i = gD a.lv i) := by kernel_rfl
theorem p92 (a : LR) (h : inR a.lv.length a.r) : V92 a := by
  rw [vc92]; simp only [condP, eq_self, implies_true, and_self, true_and, and_true, true_implies, forall_const, decide_eq_true_eq, decide_eq_false_iff_not, Int.toNat_natCast, dSpan_eSpan, dReach_eReach, dWay_eWay, dStep_eStep, dFar_eFar, dInt_eInt, Nat.zero_add, Int.zero_sub, Nat.le_eq, Nat.succ_eq_add_one, Nat.add_one_le_iff, Bool.not_eq_true', Bool.not_eq_false', rng_length, dSpan_mk, dReach_mk, dWay_mk, dStep_mk, dFar_mk, rng_getD]
  exact h
theorem ok92 : SpecOk Try.prog 92 (C92.spec d92) := okC C92 (fun _ => A92) [] [] Try.func92 (fun _ => by kernel_rfl) (fun _ => gok_cons ok63 gok_nil) (fun a h => p92 a h) (fun _ => noI rfl rfl) _
structure LL where
  lv : List Int
  l : List Reach
def A107 (a : LL) : Ann := { ann 19 [(92, C92.spec d92)] with E := [100, 110, 111], loops := fun id => if id = 2 then some [{ α := Nat, dflt := 0, T := fun k => ⟨[(0, .d (eReachesL a.l)), (1, .fn (.func 92) [] [.bptr 100 0]), (7, .int a.l.length), (8, .int k)], lives (B92 ++ capN a.lv)⟩, inv := fun k => k ≤ a.l.length ∧ idx (fun i => !nearM a.lv (gD a.l i)) a.l.length 0 = idx (fun i => !nearM a.lv (gD a.l i)) (a.l.length - k) k, meas := fun k => a.l.length - k }] else none }
def C107 : Ctr := { ro := [100, 110, 111], α := LL, xs := fun a => [.d (eReachesL a.l), .fn (.func 92) [] [.bptr 100 0]], L := fun a => B92 ++ capN a.lv, val := fun a => .int (idx (fun i => !nearM a.lv (gD a.l i)) a.l.length 0), keep := fun a => lives (B92 ++ capN a.lv), pre := fun a => [a.l.length < 4611686018427387904, ∀ i, i < a.l.length → inR a.lv.length (gD a.l i)] }
def d107 : List AVal → Heap → Option (LL × List (Nat × Nat) × List Nat)
  | [.d (.list _ m h _), .fn _ _ [.bptr o _]], H => match H o with
    | .live (.box [.fn _ _ [.bptr p _, .bptr q _]]) => match H q with
      | .live (.box [.d (.list _ n g _)]) => some (⟨rng n fun i => dInt (g i), rng m fun i => dReach (h i)⟩, [(100, o), (110, p), (111, q)], [])
      | _ => none
    | _ => none
  | _, _ => none
def V107 (a : LL) : Prop := fnVC Try.prog (A107 a) Try.f107 (bodyOf Try.f107) (C107.xs a) (heapOf (C107.L a)) (C107.val a) (C107.keep a) [] []
theorem vc107 (a : LL) : (V107 a) = ((∃ (a_1 : Nat), (a.l.length = a.l.length ∧ (∀ (i : Nat), i < a.l.length → (gD a.l i).fr = (gD a.l i).fr ∧ (gD a.l i).to = (gD a.l i).to ∧ (gD a.l i).sp.lo = (gD a.l i).sp.lo ∧ (gD a.l
 i).sp.hi = (gD a.l i).sp.hi) ∧ (↑a.l.length : Int) = (↑a.l.length : Int) ∧ (↑a_1 : Int) = 0 ∧ a.lv.length = a.lv.length ∧ ∀ (i : Nat), i < a.lv.length → gD a.lv i = gD a.lv i) ∧ a_1 ≤ a.l.length ∧ idx (fun (i : Nat) =>
 !nearM a.lv (gD a.l i)) a.l.length 0 = idx (fun (i : Nat) => !nearM a.lv (gD a.l i)) (a.l.length - a_1) a_1) ∧ ∀ (a_1 : Nat), a_1 ≤ a.l.length ∧ idx (fun (i : Nat) => !nearM a.lv (gD a.l i)) a.l.length 0 = idx (fun (i :
 Nat) => !nearM a.lv (gD a.l i)) (a.l.length - a_1) a_1 → bif decide ((↑a_1 : Int) < (↑a.l.length : Int)) then ((0 ≤ (↑a_1 : Int) ∧ (↑a_1 : Int) < (↑a.l.length : Int)) ∧ (gD a.l a_1).fr = (gD a.l a_1).fr ∧ (gD a.l a_1).to
 = (gD a.l a_1).to ∧ (gD a.l a_1).sp.lo = (gD a.l a_1).sp.lo ∧ (gD a.l a_1).sp.hi = (gD a.l a_1).sp.hi ∧ (rng a.lv.length fun (i : Nat) => gD a.lv i).length = a.lv.length ∧ (∀ (i : Nat), i < (rng a.lv.length fun (i : Nat)
 => gD a.lv i).length → gD (rng a.lv.length fun (i : Nat) => gD a.lv i) i = gD a.lv i) ∧ a.lv.length = (rng a.lv.length fun (i : Nat) => gD a.lv i).length ∧ (∀ (i : Nat), i < a.lv.length → gD a.lv i = gD (rng a.lv.length
 fun (i : Nat) => gD a.lv i) i) ∧ (0 ≤ (gD a.l a_1).to ∧ (gD a.l a_1).to < (↑(rng a.lv.length fun (i : Nat) => gD a.lv i).length : Int)) ∧ 0 ≤ (gD a.l a_1).fr ∧ (gD a.l a_1).fr < (↑(rng a.lv.length fun (i : Nat) => gD
 a.lv i).length : Int)) ∧ bif !nearM (rng a.lv.length fun (i : Nat) => gD a.lv i) (gD a.l a_1) then idx (fun (i : Nat) => !nearM a.lv (gD a.l i)) a.l.length 0 = (↑a_1 : Int) ∧ a.lv.length = a.lv.length ∧ ∀ (i : Nat), i <
 a.lv.length → gD a.lv i = gD a.lv i else ∃ (a_3 : Nat), (a.l.length = a.l.length ∧ (∀ (i : Nat), i < a.l.length → (gD a.l i).fr = (gD a.l i).fr ∧ (gD a.l i).to = (gD a.l i).to ∧ (gD a.l i).sp.lo = (gD a.l i).sp.lo ∧ (gD
 a.l i).sp.hi = (gD a.l i).sp.hi) ∧ (↑a.l.length : Int) = (↑a.l.length : Int) ∧ (↑a_3 : Int) = IntKind.i64.wrap ((↑a_1 : Int) + 1) ∧ a.lv.length = a.lv.length ∧ ∀ (i : Nat), i < a.lv.length → gD a.lv i = gD a.lv i) ∧ (a_3
 ≤ a.l.length ∧ idx (fun (i : Nat) => !nearM a.lv (gD a.l i)) a.l.length 0 = idx (fun (i : Nat) => !nearM a.lv (gD a.l i)) (a.l.length - a_3) a_3) ∧ a.l.length - a_3 < a.l.length - a_1 else idx (fun (i : Nat) => !nearM
 a.lv (gD a.l i)) a.l.length 0 = -1 ∧ a.lv.length = a.lv.length ∧ ∀ (i : Nat), i < a.lv.length → gD a.lv i = gD a.lv i) := by kernel_rfl
theorem p107 (a : LL) (h : a.l.length < 4611686018427387904) (hr : ∀ i, i < a.l.length → inR a.lv.length (gD a.l i)) : V107 a := by
  rw [vc107]
  simp only [condP, eq_self, implies_true, and_self, true_and, and_true, true_implies, forall_const, decide_eq_true_eq, decide_eq_false_iff_not, Int.toNat_natCast, dSpan_eSpan, dReach_eReach, dWay_eWay, dStep_eStep, dFar_eFar, dInt_eInt, Nat.zero_add, Int.zero_sub, Nat.le_eq, Nat.succ_eq_add_one, Nat.add_one_le_iff, Bool.not_eq_true', Bool.not_eq_false', rng_length, dSpan_mk, dReach_mk, dWay_mk, dStep_mk, dFar_mk, rng_getD, DL.d2]
  refine ⟨⟨0, rfl, Nat.zero_le _, rfl⟩, fun k ⟨h1, h2⟩ => ⟨fun hlt => ?_, fun hge => ?_⟩⟩
  · have hlt : k < a.l.length := by omega
    refine ⟨⟨⟨by omega, by omega⟩, hr k hlt⟩, fun hp => ?_, fun hp => ⟨k + 1, (wsucc (by omega)).symm, ⟨by omega, ?_⟩, by omega⟩⟩
    · rw [h2]; exact idx_stop hlt (by simpa using hp)
    · rw [h2]; exact idx_go hlt (by simpa using hp)
  · rw [h2]; exact idx_end (by omega)
theorem ok107 : SpecOk Try.prog 107 (C107.spec d107) := okC C107 A107 [] [] Try.func107 (fun _ => by kernel_rfl) (fun _ => gok_cons ok92 gok_nil) (fun a h => p107 a h.1 h.2) (fun _ => noI rfl rfl) _
def C91 : Ctr := { C107 with val := fun (a : LL) => .bool (decide (idx (fun i => !nearM a.lv (gD a.l i)) a.l.length 0 ≥ 0)) }
def d91 : List AVal → Heap → Option (C91.α × List (Nat × Nat) × List Nat) := d107
def A91 := { ann 9 [(107, C107.spec d107)] with E := [100, 110, 111] }
def V91 (a : LL) : Prop := fnVC Try.prog A91 Try.f91 (bodyOf Try.f91) (C91.xs a) (heapOf (C91.L a)) (C91.val a) (C91.keep a) [] []
theorem vc91 (a : LL) : (V91 a) = (((rng a.l.length fun (i : Nat) => gD a.l i).length = a.l.length ∧ (∀ (i : Nat), i < (rng a.l.length fun (i : Nat) => gD a.l i).length → (gD (rng a.l.length fun (i : Nat) => gD a.l i)
 i).fr = (gD a.l i).fr ∧ (gD (rng a.l.length fun (i : Nat) => gD a.l i) i).to = (gD a.l i).to ∧ (gD (rng a.l.length fun (i : Nat) => gD a.l i) i).sp.lo = (gD a.l i).sp.lo ∧ (gD (rng a.l.length fun (i : Nat) => gD a.l i)
 i).sp.hi = (gD a.l i).sp.hi) ∧ (rng a.lv.length fun (i : Nat) => gD a.lv i).length = a.lv.length ∧ (∀ (i : Nat), i < (rng a.lv.length fun (i : Nat) => gD a.lv i).length → gD (rng a.lv.length fun (i : Nat) => gD a.lv i) i
 = gD a.lv i) ∧ a.lv.length = (rng a.lv.length fun (i : Nat) => gD a.lv i).length ∧ (∀ (i : Nat), i < a.lv.length → gD a.lv i = gD (rng a.lv.length fun (i : Nat) => gD a.lv i) i) ∧ (rng a.l.length fun (i : Nat) => gD a.l
 i).length < 4611686018427387904 ∧ ∀ (i : Nat), i < (rng a.l.length fun (i : Nat) => gD a.l i).length → (0 ≤ (gD (rng a.l.length fun (i : Nat) => gD a.l i) i).to ∧ (gD (rng a.l.length fun (i : Nat) => gD a.l i) i).to <
 (↑(rng a.lv.length fun (i : Nat) => gD a.lv i).length : Int)) ∧ 0 ≤ (gD (rng a.l.length fun (i : Nat) => gD a.l i) i).fr ∧ (gD (rng a.l.length fun (i : Nat) => gD a.l i) i).fr < (↑(rng a.lv.length fun (i : Nat) => gD
 a.lv i).length : Int)) ∧ decide (idx (fun (i : Nat) => !nearM a.lv (gD a.l i)) a.l.length 0 ≥ 0) = decide (idx (fun (i : Nat) => !nearM (rng a.lv.length fun (i : Nat) => gD a.lv i) (gD (rng a.l.length fun (i : Nat) => gD
 a.l i) i)) (rng a.l.length fun (i : Nat) => gD a.l i).length 0 ≥ 0) ∧ a.lv.length = a.lv.length ∧ ∀ (i : Nat), i < a.lv.length → gD a.lv i = gD a.lv i) := by kernel_rfl
theorem p91 (a : LL) (h : a.l.length < 4611686018427387904) (hr : ∀ i, i < a.l.length → inR a.lv.length (gD a.l i)) : V91 a := by
  rw [vc91]; simp only [condP, eq_self, implies_true, and_self, true_and, and_true, true_implies, forall_const, decide_eq_true_eq, decide_eq_false_iff_not, Int.toNat_natCast, dSpan_eSpan, dReach_eReach, dWay_eWay, dStep_eStep, dFar_eFar, dInt_eInt, Nat.zero_add, Int.zero_sub, Nat.le_eq, Nat.succ_eq_add_one, Nat.add_one_le_iff, Bool.not_eq_true', Bool.not_eq_false', rng_length, dSpan_mk, dReach_mk, dWay_mk, dStep_mk, dFar_mk, rng_getD, DL.d2]
  exact ⟨h, hr⟩
theorem ok91 : SpecOk Try.prog 91 (C91.spec d91) := Ctr.spec_ok (C := C91) (fun (a : LL) h => fnt (A := A91) (ren := []) (fz := []) Try.func91 (by kernel_rfl) (gok_cons ok107 gok_nil) (p91 a h.1 h.2)) _
theorem every_near {lv : List Int} {l : List Reach} : (!decide (0 ≤ idx (fun i => !nearM lv (gD l i)) l.length 0)) = allB (fun i => nearM lv (gD l i)) l.length := every_eq
def C65 : Ctr := { ro := [110, 111], α := LL, xs := fun a => [.d (eReachesL a.l), fn63], L := fun a => capN a.lv, val := fun a => .bool (allB (fun i => nearM a.lv (gD a.l i)) a.l.length), keep := fun a => lives (capN a.lv), pre := fun a => [a.l.length < 4611686018427387904, ∀ i, i < a.l.length → inR a.lv.length (gD a.l i)] }
def d65 : List AVal → Heap → Option (LL × List (Nat × Nat) × List Nat)
  | [.d (.list _ m h _), .fn _ _ [.bptr p _, .bptr q _]], H => match H q with
    | .live (.box [.d (.list _ n g _)]) => some (⟨rng n fun i => dInt (g i), rng m fun i => dReach (h i)⟩, [(110, p), (111, q)], [])
    | _ => none
  | _, _ => none
def A65 := { ann 9 [(91, C91.spec d91)] with E := [110, 111] }
def V65 (a : LL) : Prop := fnVC Try.prog A65 Try.f65 (bodyOf Try.f65) (C65.xs a) (heapOf (C65.L a)) (C65.val a) (C65.keep a) [] []
theorem vc65 (a : LL) : (V65 a) = (((rng a.l.length fun (i : Nat) => gD a.l i).length = a.l.length ∧ (∀ (i : Nat), i < (rng a.l.length fun (i : Nat) => gD a.l i).length → (gD (rng a.l.length fun (i : Nat) => gD a.l i)
 i).fr = (gD a.l i).fr ∧ (gD (rng a.l.length fun (i : Nat) => gD a.l i) i).to = (gD a.l i).to ∧ (gD (rng a.l.length fun (i : Nat) => gD a.l i) i).sp.lo = (gD a.l i).sp.lo ∧ (gD (rng a.l.length fun (i : Nat) => gD a.l i)
 i).sp.hi = (gD a.l i).sp.hi) ∧ (rng a.lv.length fun (i : Nat) => gD a.lv i).length = a.lv.length ∧ (∀ (i : Nat), i < (rng a.lv.length fun (i : Nat) => gD a.lv i).length → gD (rng a.lv.length fun (i : Nat) => gD a.lv i) i
 = gD a.lv i) ∧ a.lv.length = (rng a.lv.length fun (i : Nat) => gD a.lv i).length ∧ (∀ (i : Nat), i < a.lv.length → gD a.lv i = gD (rng a.lv.length fun (i : Nat) => gD a.lv i) i) ∧ (rng a.l.length fun (i : Nat) => gD a.l
 i).length < 4611686018427387904 ∧ ∀ (i : Nat), i < (rng a.l.length fun (i : Nat) => gD a.l i).length → (0 ≤ (gD (rng a.l.length fun (i : Nat) => gD a.l i) i).to ∧ (gD (rng a.l.length fun (i : Nat) => gD a.l i) i).to <
 (↑(rng a.lv.length fun (i : Nat) => gD a.lv i).length : Int)) ∧ 0 ≤ (gD (rng a.l.length fun (i : Nat) => gD a.l i) i).fr ∧ (gD (rng a.l.length fun (i : Nat) => gD a.l i) i).fr < (↑(rng a.lv.length fun (i : Nat) => gD
 a.lv i).length : Int)) ∧ allB (fun (i : Nat) => nearM a.lv (gD a.l i)) a.l.length = !decide (idx (fun (i : Nat) => !nearM (rng a.lv.length fun (i : Nat) => gD a.lv i) (gD (rng a.l.length fun (i : Nat) => gD a.l i) i))
 (rng a.l.length fun (i : Nat) => gD a.l i).length 0 ≥ 0) ∧ a.lv.length = a.lv.length ∧ ∀ (i : Nat), i < a.lv.length → gD a.lv i = gD a.lv i) := by kernel_rfl
theorem p65 (a : LL) (h : a.l.length < 4611686018427387904) (hr : ∀ i, i < a.l.length → inR a.lv.length (gD a.l i)) : V65 a := by
  rw [vc65]; simp only [condP, eq_self, implies_true, and_self, true_and, and_true, true_implies, forall_const, decide_eq_true_eq, decide_eq_false_iff_not, Int.toNat_natCast, dSpan_eSpan, dReach_eReach, dWay_eWay, dStep_eStep, dFar_eFar, dInt_eInt, Nat.zero_add, Int.zero_sub, Nat.le_eq, Nat.succ_eq_add_one, Nat.add_one_le_iff, Bool.not_eq_true', Bool.not_eq_false', rng_length, dSpan_mk, dReach_mk, dWay_mk, dStep_mk, dFar_mk, rng_getD, ge_iff_le, DL.d2, every_near]
  exact ⟨h, hr⟩
theorem ok65 : SpecOk Try.prog 65 (C65.spec d65) := Ctr.spec_ok (C := C65) (fun (a : LL) h => fnt (A := A65) (ren := []) (fz := []) Try.func65 (by kernel_rfl) (gok_cons ok91 gok_nil) (p65 a h.1 h.2)) _
structure CN where
  rise : Int
  s : Span
  p : Int
def countM (rise : Int) (s : Span) (p : Int) : Int := if rise = 1 then wr (p + s.lo) else if rise = -1 then wr (p - s.hi) else p
def C66 : Ctr := { α := CN, xs := fun a => [.int a.rise, .d (eSpan a.s), .bptr 100 0], L := fun a => [(100, .box [.int a.p])], val := fun _ => uV, keep := fun a => [(100, .live (.box [.int (countM a.rise a.s a.p)]))] }
def d66 : List AVal → Heap → Option (CN × List (Nat × Nat) × List Nat)
  | [.d (.v (.int _ r)), .d s, .bptr o _], H => match H o with
    | .live (.box [.d (.v (.int _ p))]) => some (⟨r, dSpan s, p⟩, [(100, o)], [])
    | _ => none
  | _, _ => none
def A66 := { ann 18 [] with E := [100] }
def V66 (a : CN) : Prop := fnVC Try.prog A66 Try.f66 (bodyOf Try.f66) (C66.xs a) (heapOf (C66.L a)) (C66.val a) (C66.keep a) [] []
theorem vc66 (a : CN) : (V66 a) = (bif a.rise == 1 then countM a.rise a.s a.p = IntKind.i64.wrap (a.p + a.s.lo) else bif a.rise == -1 then countM a.rise a.s a.p = IntKind.i64.wrap (a.p - a.s.hi) else countM a.rise a.s
 a.p = a.p) := by kernel_rfl
theorem p66 (a : CN) : V66 a := by
  rw [vc66]; simp only [condP, eq_self, implies_true, and_self, true_and, and_true, true_implies, forall_const, decide_eq_true_eq, decide_eq_false_iff_not, Int.toNat_natCast, dSpan_eSpan, dReach_eReach, dWay_eWay, dStep_eStep, dFar_eFar, dInt_eInt, Nat.zero_add, Int.zero_sub, Nat.le_eq, Nat.succ_eq_add_one, Nat.add_one_le_iff, Bool.not_eq_true', Bool.not_eq_false', rng_length, dSpan_mk, dReach_mk, dWay_mk, dStep_mk, dFar_mk, rng_getD]
  unfold countM
  by_cases h1 : a.rise = 1 <;> by_cases h2 : a.rise = -1 <;> simp [h1, h2]
theorem ok66 : SpecOk Try.prog 66 (C66.spec d66) := okC C66 (fun _ => A66) [] [] Try.func66 (fun _ => by kernel_rfl) (fun _ => gok_nil) (fun a _ => p66 a) (fun _ => noI rfl rfl) _
structure NPL where
  N : NetL
  price : Int
  lv : List Int
structure PK where
  p : Int
  k : Nat
  deriving Inhabited
def prR (lv : List Int) : Int → List Reach → Int
  | p, [] => p
  | p, r :: l => prR lv (countM (riseM lv r) r.sp p) l
def prG : Int → List Int → List Span → Int
  | p, x :: lv, s :: l => prG (countM x s p) lv l
  | p, _, _ => p
def provedM (N : NetL) (lv : List Int) : Int := prG (prR lv 0 N.r) lv N.g
def levOk (N : NetL) (lv : List Int) : Bool := decide (lv.length = N.g.length) && allB (fun i => inM (gD lv i) (-1) 1) lv.length && allB (fun i => nearM lv (gD N.r i)) N.r.length
def prH (a : NPL) (p : Int) : List (Nat × HCell) := [(205, .live (.box [.d (eIntsL a.lv)])), (211, .live (.box [.int p]))]
def fn66 : AVal := .fn (.func 66) [] [.bptr 211 0]
def A24 (a : NPL) : Ann := { ann 85 [(44, s44), (64, C64c61.spec dec64), (65, C65.spec d65), (66, C66.spec d66)] with loops := fun id => if id = 11 then some [{ α := PK, dflt := default, T := fun s => ⟨[(1, .int a.price), (3, .bptr 203 0), (5, .bptr 205 0), (11, .bptr 211 0), (12, fn66), (44, .d (eReachesL a.N.r)), (45, .int a.N.r.length), (46, .int s.k)], [(203, begO a.N)] ++ prH a s.p⟩, inv := fun s => s.k ≤ a.N.r.length ∧ prR a.lv s.p (a.N.r.drop s.k) = prR a.lv 0 a.N.r, meas := fun s => a.N.r.length - s.k, first := [(203, 1000), (205, 1016), (211, 9000)] }] else if id = 16 then some [{ α := PK, dflt := default, T := fun s => ⟨[(1, .int a.price), (5, .bptr 205 0), (11, .bptr 211 0), (12, fn66), (67, .d (eSpansL a.N.g)), (68, .int a.N.g.length), (69, .int s.k)], prH a s.p⟩, inv := fun s => s.k ≤ a.N.g.length ∧ prG s.p (a.lv.drop s.k) (a.N.g.drop s.k) = provedM a.N a.lv, meas := fun s => a.N.g.length - s.k }] else none }
def xs24 (a : NPL) : List AVal := [.d (eNetL a.N), .int a.price, .d (eIntsL a.lv)]
def provE (a : NPL) : Int := if checkL a.N = 0 then if levOk a.N a.lv then 0 else 2 else checkL a.N
def C24 : Ctr := { α := NPL, xs := xs24, L := fun _ => [], val := fun a => .tup [.bool (decide (provE a = 0) && decide (a.price ≤ provedM a.N a.lv)), .int (provE a)], keep := fun _ => [], pre := fun a => [a.lv.length < 4611686018427387904] }
def V24 (a : NPL) : Prop := fnVC Try.prog (A24 a) Try.f24 (bodyOf Try.f24) (C24.xs a) (heapOf (C24.L a)) (C24.val a) (C24.keep a) [] []
abbrev z24_0 (a : NPL) : Int := checkM (Net.mk a.N.g.length (fun (i : Nat) => gD a.N.g i) a.N.r.length fun (i : Nat) => gD a.N.r i)
abbrev z24_1 (a : NPL) : Bool := decide (provE a = 0) && decide (a.price ≤ provedM a.N a.lv)
abbrev z24_2 (a : NPL) : Prop := z24_1 a = false
abbrev z24_3 (a : NPL) : Bool := (↑a.lv.length : Int) != (↑a.N.g.length : Int)
abbrev z24_4 (a : NPL) : List Int := rng a.lv.length fun (i : Nat) => gD a.lv i
abbrev z24_5 (a : NPL) : Nat := (z24_4 a).length
abbrev z24_6 (a : NPL) : Prop := z24_5 a = a.lv.length
abbrev z24_7 (a : NPL) (i : Nat) : Int := gD (z24_4 a) i
abbrev z24_8 (a : NPL) : Prop := ∀ (i : Nat), i < z24_5 a → z24_7 a i = gD a.lv i
abbrev z24_9 (a : NPL) : Bool := bif z24_3 a then true else !allB (fun (i : Nat) => inM (z24_7 a i) (-1) 1) (z24_5 a)
abbrev z24_10 (a : NPL) : List Reach := rng a.N.r.length fun (i : Nat) => gD a.N.r i
abbrev z24_11 (a : NPL) : Nat := (z24_10 a).length
abbrev z24_12 (i : Nat) (a : NPL) : Prop := i < z24_11 a
abbrev z24_13 (a : NPL) (i : Nat) : Reach := gD (z24_10 a) i
abbrev z24_14 (a : NPL) (i : Nat) : Int := (z24_13 a i).fr
abbrev z24_15 (a : NPL) (i : Nat) : Int := (z24_13 a i).to
abbrev z24_16 (a : NPL) (i : Nat) : Span := (z24_13 a i).sp
abbrev z24_17 (a : NPL) : Prop := a.N.r.length = a.N.r.length
abbrev z24_18 (a : NPL) : Prop := ∀ (i : Nat), i < a.N.r.length → (gD a.N.r i).fr = (gD a.N.r i).fr ∧ (gD a.N.r i).to = (gD a.N.r i).to ∧ (gD a.N.r i).sp.lo = (gD a.N.r i).sp.lo ∧ (gD a.N.r i).sp.hi = (gD a.N.r i).sp.hi
abbrev z24_19 (a : NPL) : Prop := (↑a.N.r.length : Int) = (↑a.N.r.length : Int)
abbrev z24_20 (a : PK) : Prop := (↑a.k : Int) = 0
abbrev z24_21 (a : NPL) : Prop := a.N.g.length = a.N.g.length
abbrev z24_22 (a : NPL) : Prop := ∀ (i : Nat), i < a.N.g.length → (gD a.N.g i).lo = (gD a.N.g i).lo ∧ (gD a.N.g i).hi = (gD a.N.g i).hi
abbrev z24_23 (a : NPL) : Prop := a.lv.length = a.lv.length
abbrev z24_24 (a : NPL) : Prop := ∀ (i : Nat), i < a.lv.length → gD a.lv i = gD a.lv i
abbrev z24_25 (a : PK) (a1 : NPL) : Prop := a.k ≤ a1.N.r.length ∧ prR a1.lv a.p (List.drop a.k a1.N.r) = prR a1.lv 0 a1.N.r
abbrev z24_26 (a : PK) (a1 : NPL) : Prop := (↑a.k : Int) < (↑a1.N.r.length : Int)
abbrev z24_27 (a : PK) : Prop := 0 ≤ (↑a.k : Int)
abbrev z24_28 (a : NPL) (a1 : PK) : Int := IntKind.i64.wrap (gD a.lv (gD a.N.r a1.k).to.toNat - gD a.lv (gD a.N.r a1.k).fr.toNat)
abbrev z24_29 (a : NPL) (a1 : PK) : Int := (gD a.N.r a1.k).sp.lo
abbrev z24_30 (a : NPL) (a1 : PK) : Int := (gD a.N.r a1.k).sp.hi
abbrev z24_31 (a : PK) (a1 : PK) : Prop := (↑a.k : Int) = IntKind.i64.wrap ((↑a1.k : Int) + 1)
abbrev z24_32 (a : NPL) (a1 : PK) : Nat := a.N.r.length - a1.k
abbrev z24_33 (a : NPL) : Prop := (↑a.N.g.length : Int) = (↑a.N.g.length : Int)
abbrev z24_34 (a : PK) (a1 : NPL) : Prop := a.k ≤ a1.N.g.length ∧ prG a.p (List.drop a.k a1.lv) (List.drop a.k a1.N.g) = provedM a1.N a1.lv
abbrev z24_35 (a : PK) (a1 : NPL) : Prop := (↑a.k : Int) < (↑a1.N.g.length : Int)
abbrev z24_36 (a : NPL) (a1 : PK) : Nat := a.N.g.length - a1.k
theorem vc24 (a : NPL) : (V24 a) = (((∀ (i : Nat), i < a.N.g.length → True) ∧ ∀ (i : Nat), i < a.N.r.length → True) ∧ bif z24_0 a != 0 then z24_2 a ∧ provE a = z24_0 a else (((!z24_3 a) = true → z24_6 a ∧ z24_8 a ∧
 decide (z24_5 a < 4611686018427387904) = true) ∧ ((!z24_9 a) = true → z24_11 a = a.N.r.length ∧ (∀ (i : Nat), z24_12 i a → z24_14 a i = (gD a.N.r i).fr ∧ z24_15 a i = (gD a.N.r i).to ∧ (z24_16 a i).lo = (gD a.N.r
 i).sp.lo ∧ (z24_16 a i).hi = (gD a.N.r i).sp.hi) ∧ z24_6 a ∧ z24_8 a ∧ a.lv.length = z24_5 a ∧ (∀ (i : Nat), i < a.lv.length → gD a.lv i = z24_7 a i) ∧ z24_11 a < 4611686018427387904 ∧ ∀ (i : Nat), z24_12 i a → (0 ≤
 z24_15 a i ∧ z24_15 a i < (↑(z24_5 a) : Int)) ∧ 0 ≤ z24_14 a i ∧ z24_14 a i < (↑(z24_5 a) : Int))) ∧ bif bif z24_9 a then true else !allB (fun (i : Nat) => nearM (z24_4 a) (z24_13 a i)) (z24_11 a) then z24_2 a ∧ provE a
 = 2 else (∃ (a_1 : PK), (a.price = a.price ∧ z24_17 a ∧ z24_18 a ∧ z24_19 a ∧ z24_20 a_1 ∧ z24_21 a ∧ z24_22 a ∧ z24_17 a ∧ z24_18 a ∧ z24_23 a ∧ z24_24 a ∧ a_1.p = 0) ∧ z24_25 a_1 a) ∧ ∀ (a_1 : PK), z24_25 a_1 a → bif
 decide (z24_26 a_1 a) then (z24_27 a_1 ∧ z24_26 a_1 a) ∧ ((0 ≤ (gD a.N.r a_1.k).to ∧ (gD a.N.r a_1.k).to < (↑a.lv.length : Int)) ∧ (0 ≤ (gD a.N.r a_1.k).fr ∧ (gD a.N.r a_1.k).fr < (↑a.lv.length : Int)) ∧ z24_28 a a_1 =
 z24_28 a a_1 ∧ z24_29 a a_1 = z24_29 a a_1 ∧ z24_30 a a_1 = z24_30 a a_1 ∧ a_1.p = a_1.p) ∧ ∃ (a_3 : PK), (a.price = a.price ∧ z24_17 a ∧ z24_18 a ∧ z24_19 a ∧ z24_31 a_3 a_1 ∧ z24_21 a ∧ z24_22 a ∧ z24_17 a ∧ z24_18 a ∧
 z24_23 a ∧ z24_24 a ∧ a_3.p = countM (z24_28 a a_1) (gD a.N.r a_1.k).sp a_1.p) ∧ z24_25 a_3 a ∧ z24_32 a a_3 < z24_32 a a_1 else (∃ (a_3 : PK), (a.price = a.price ∧ z24_21 a ∧ z24_22 a ∧ z24_33 a ∧ z24_20 a_3 ∧ z24_23 a
 ∧ z24_24 a ∧ a_3.p = a_1.p) ∧ z24_34 a_3 a) ∧ ∀ (a_3 : PK), z24_34 a_3 a → bif decide (z24_35 a_3 a) then (z24_27 a_3 ∧ z24_35 a_3 a) ∧ ((z24_27 a_3 ∧ (↑a_3.k : Int) < (↑a.lv.length : Int)) ∧ gD a.lv a_3.k = gD a.lv
 a_3.k ∧ (gD a.N.g a_3.k).lo = (gD a.N.g a_3.k).lo ∧ (gD a.N.g a_3.k).hi = (gD a.N.g a_3.k).hi ∧ a_3.p = a_3.p) ∧ ∃ (a_5 : PK), (a.price = a.price ∧ z24_21 a ∧ z24_22 a ∧ z24_33 a ∧ z24_31 a_5 a_3 ∧ z24_23 a ∧ z24_24 a ∧
 a_5.p = countM (gD a.lv a_3.k) (gD a.N.g a_3.k) a_3.p) ∧ z24_34 a_5 a ∧ z24_36 a a_5 < z24_36 a a_3 else z24_1 a = decide (a_3.p ≥ a.price) ∧ provE a = 0) := by kernel_rfl
theorem p24 (a : NPL) (h : a.lv.length < 4611686018427387904) : V24 a := by
  rw [vc24]; delta z24_0 z24_1 z24_2 z24_3 z24_4 z24_5 z24_6 z24_7 z24_8 z24_9 z24_10 z24_11 z24_12 z24_13 z24_14 z24_15 z24_16 z24_17 z24_18 z24_19 z24_20 z24_21 z24_22 z24_23 z24_24 z24_25 z24_26 z24_27 z24_28 z24_29 z24_30 z24_31 z24_32 z24_33 z24_34 z24_35 z24_36; simp only [condP, eq_self, implies_true, and_self, true_and, and_true, true_implies, forall_const, decide_eq_true_eq, decide_eq_false_iff_not, Int.toNat_natCast, dSpan_eSpan, dReach_eReach, dWay_eWay, dStep_eStep, dFar_eFar, dInt_eInt, Nat.zero_add, Int.zero_sub, Nat.le_eq, Nat.succ_eq_add_one, Nat.add_one_le_iff, Bool.not_eq_true', Bool.not_eq_false', rng_length, dSpan_mk, dReach_mk, dWay_mk, dStep_mk, dFar_mk, rng_getD, DL.d2, DL.d6, DL.d7, DL.d8, net_check]
  have e1 : ((a.lv.length : Int) != (a.N.g.length : Int)) = !decide (a.lv.length = a.N.g.length) := by
    by_cases h : a.lv.length = a.N.g.length
    · simp [h]
    · have : (a.lv.length : Int) ≠ a.N.g.length := by omega
      simp [h, this]
  have e2 : (bif bif ((a.lv.length : Int) != (a.N.g.length : Int)) then true else !allB (fun i => inM (gD a.lv i) (-1) 1) a.lv.length then true else !allB (fun i => nearM a.lv (gD a.N.r i)) a.N.r.length) = !levOk a.N a.lv := by
    rw [e1]; unfold levOk
    cases decide (a.lv.length = a.N.g.length) <;> cases allB (fun i => inM (gD a.lv i) (-1) 1) a.lv.length <;> cases allB (fun i => nearM a.lv (gD a.N.r i)) a.N.r.length <;> rfl
  by_cases hc : checkL a.N = 0
  · have hg := good_of hc
    have hr14 := hg.r14
    have hg8 := hg.g8
    have hin : a.lv.length = a.N.g.length → ∀ i, i < a.N.r.length → (0 ≤ (gD a.N.r i).to ∧ (gD a.N.r i).to < a.lv.length) ∧ 0 ≤ (gD a.N.r i).fr ∧ (gD a.N.r i).fr < a.lv.length := fun he i hi => by
      obtain ⟨_, h2, h3, _⟩ := hg.r i hi
      rw [he]; exact ⟨h3, h2⟩
    refine ⟨fun hb => by simp [hc] at hb, fun _ => ⟨⟨fun _ => h, fun hb => ⟨by omega, ?_⟩⟩, fun hb => ?_, fun hb => ?_⟩⟩
    · rw [e1] at hb
      refine hin ?_
      cases hd : decide (a.lv.length = a.N.g.length) with
      | true => exact of_decide_eq_true hd
      | false => rw [hd] at hb; cases hb
    · rw [e2] at hb
      have hl : levOk a.N a.lv = false := by simpa using hb
      have : provE a = 2 := by simp [provE, hc, hl]
      rw [this]; exact ⟨rfl, rfl⟩
    · rw [e2] at hb
      have hl : levOk a.N a.lv = true := by simpa using hb
      have he : a.lv.length = a.N.g.length := by
        unfold levOk at hl
        simp only [Bool.and_eq_true, decide_eq_true_eq] at hl; exact hl.1.1
      have hp : provE a = 0 := by simp [provE, hc, hl]
      refine ⟨⟨⟨0, 0⟩, ⟨rfl, rfl⟩, Nat.zero_le _, rfl⟩, fun s ⟨h1, h2⟩ => ⟨fun hlt => ⟨⟨by omega, hlt⟩, hin he _ (by omega), ⟨⟨_, s.k + 1⟩, ⟨(wsucc (by omega)).symm, rfl⟩, ⟨by show s.k + 1 ≤ _; omega, ?_⟩, by show _ - (s.k + 1) < _; omega⟩⟩, fun hge => ⟨⟨⟨s.p, 0⟩, ⟨rfl, rfl⟩, Nat.zero_le _, ?_⟩, fun q ⟨h3, h4⟩ => ⟨fun hlt => ⟨⟨by omega, hlt⟩, ⟨by omega, by omega⟩, ⟨⟨_, q.k + 1⟩, ⟨(wsucc (by omega)).symm, rfl⟩, ⟨by show q.k + 1 ≤ _; omega, ?_⟩, by show _ - (q.k + 1) < _; omega⟩⟩, fun hge => ?_⟩⟩⟩⟩
      · rw [drop_gD (by omega)] at h2; exact h2
      · rw [List.drop_eq_nil_of_le (by omega)] at h2
        have h2 : s.p = prR a.lv 0 a.N.r := h2
        show prG s.p a.lv a.N.g = _
        rw [h2]; rfl
      · rw [drop_gD (l := a.lv) (by omega), drop_gD (l := a.N.g) (by omega)] at h4; exact h4
      · rw [List.drop_eq_nil_of_le (show a.lv.length ≤ q.k by omega)] at h4
        have h4 : q.p = provedM a.N a.lv := h4
        rw [hp, h4]; simp
  · refine ⟨fun hb => ?_, fun hb => by simp [hc] at hb⟩
    have : provE a = checkL a.N := by simp [provE, hc]
    rw [this]; simp [hc]
def d24 : List AVal → Heap → Option (NPL × List (Nat × Nat) × List Nat)
  | [.d x, .d (.v (.int _ p)), .d (.list _ n g _)], _ => match decNet x with
    | some N => some (⟨N, p, rng n fun i => dInt (g i)⟩, [], [])
    | none => none
  | [.d x, .d (.v (.int _ p)), .own id _ _ n], H => match decNet x, H id with
    | some N, .live (.row _ _ g) => some (⟨N, p, rng n fun i => dInt (g i)⟩, [], [id])
    | _, _ => none
  | _, _ => none
theorem ok24 : SpecOk Try.prog 24 (C24.spec d24) := okC C24 A24 [] [] Try.func24 (fun _ => by kernel_rfl) (fun _ => gok_cons ok44 (gok_cons ok64c61 (gok_cons ok65 (gok_cons ok66 gok_nil)))) (fun a h => p24 a h) (fun _ => noI rfl rfl) _
end Go.Bal
