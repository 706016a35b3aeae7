/- Package balance: Group, where there is an error. -/
import Derived.Test.YtonddbmhljelgaaBalO
import Derived.Test.YtonddbmhljelgaaBalS
import Derived.Test.YtonddbmhljelgaaBalW
import Derived.Test.YtonddbmhljelgaaBalT16
set_option linter.unusedVariables false
set_option linter.unusedSimpArgs false

namespace Go.Bal
open Go Go.Sym Go.Proofs
def suspE (N : NetL) : Int := if checkL N = 0 then if setC N = 0 then 8 else 0 else checkL N
def A25e : Ann := ann 72 [(19, C19.spec d67)]
def A25b : Ann := ann 72 [(19, C19b.spec d67)]
def C25b : Ctr := { α := NetL, xs := fun N => [.d (eNetL N)], L := fun _ => [], val := fun N => .tup [.d (eIntsL []), .int (suspE N)], keep := fun _ => [], pre := fun N => [suspE N ≠ 0, checkL N = 0 → (settledV N).isSome = true] }
def V25e (N : NetL) : Prop := fnVC Try.prog A25e Try.f25 (bodyOf Try.f25) (C25b.xs N) (heapOf []) (C25b.val N) (C25b.keep N) [] []
theorem vc25e (N : NetL) : (V25e N) = (((rng N.g.length fun (i : Nat) => gD N.g i).length = N.g.length ∧ (∀ (i : Nat), i < (rng N.g.length fun (i : Nat) => gD N.g i).length → (gD (rng N.g.length fun (i : Nat) => gD N.g
 i) i).lo = (gD N.g i).lo ∧ (gD (rng N.g.length fun (i : Nat) => gD N.g i) i).hi = (gD N.g i).hi) ∧ (rng N.r.length fun (i : Nat) => gD N.r i).length = N.r.length ∧ (∀ (i : Nat), i < (rng N.r.length fun (i : Nat) => gD
 N.r i).length → (gD (rng N.r.length fun (i : Nat) => gD N.r i) i).fr = (gD N.r i).fr ∧ (gD (rng N.r.length fun (i : Nat) => gD N.r i) i).to = (gD N.r i).to ∧ (gD (rng N.r.length fun (i : Nat) => gD N.r i) i).sp.lo = (gD
 N.r i).sp.lo ∧ (gD (rng N.r.length fun (i : Nat) => gD N.r i) i).sp.hi = (gD N.r i).sp.hi) ∧ checkL (NetL.mk (rng N.g.length fun (i : Nat) => gD N.g i) (rng N.r.length fun (i : Nat) => gD N.r i)) = 0 ∧ (settledV (NetL.mk
 (rng N.g.length fun (i : Nat) => gD N.g i) (rng N.r.length fun (i : Nat) => gD N.r i))).isSome = true) ∧ bif decide (setC (NetL.mk (rng N.g.length fun (i : Nat) => gD N.g i) (rng N.r.length fun (i : Nat) => gD N.r i)) =
 0) then 0 = 0 ∧ 0 = 0 ∧ suspE N = 8 else False) := by kernel_rfl
def V25b (N : NetL) : Prop := fnVC Try.prog A25b Try.f25 (bodyOf Try.f25) (C25b.xs N) (heapOf []) (C25b.val N) (C25b.keep N) [] []
theorem vc25b (N : NetL) : (V25b N) = (((rng N.g.length fun (i : Nat) => gD N.g i).length = N.g.length ∧ (∀ (i : Nat), i < (rng N.g.length fun (i : Nat) => gD N.g i).length → (gD (rng N.g.length fun (i : Nat) => gD N.g
 i) i).lo = (gD N.g i).lo ∧ (gD (rng N.g.length fun (i : Nat) => gD N.g i) i).hi = (gD N.g i).hi) ∧ (rng N.r.length fun (i : Nat) => gD N.r i).length = N.r.length ∧ (∀ (i : Nat), i < (rng N.r.length fun (i : Nat) => gD
 N.r i).length → (gD (rng N.r.length fun (i : Nat) => gD N.r i) i).fr = (gD N.r i).fr ∧ (gD (rng N.r.length fun (i : Nat) => gD N.r i) i).to = (gD N.r i).to ∧ (gD (rng N.r.length fun (i : Nat) => gD N.r i) i).sp.lo = (gD
 N.r i).sp.lo ∧ (gD (rng N.r.length fun (i : Nat) => gD N.r i) i).sp.hi = (gD N.r i).sp.hi) ∧ (checkL (NetL.mk (rng N.g.length fun (i : Nat) => gD N.g i) (rng N.r.length fun (i : Nat) => gD N.r i)) = 0 → False)) ∧ bif
 checkL (NetL.mk (rng N.g.length fun (i : Nat) => gD N.g i) (rng N.r.length fun (i : Nat) => gD N.r i)) != 0 then 0 = 0 ∧ 0 = 0 ∧ suspE N = checkL (NetL.mk (rng N.g.length fun (i : Nat) => gD N.g i) (rng N.r.length fun (i
 : Nat) => gD N.r i)) else False) := by kernel_rfl
theorem p25e (N : NetL) (h1 : checkL N = 0) (h2 : (settledV N).isSome = true) (h3 : setC N = 0) : V25e N := by
  rw [vc25e]; simp only [condP, eq_self, implies_true, and_self, true_and, and_true, true_implies, forall_const, decide_eq_true_eq, decide_eq_false_iff_not, Int.toNat_natCast, dSpan_eSpan, dReach_eReach, dWay_eWay, dStep_eStep, dFar_eFar, dInt_eInt, Nat.zero_add, Int.zero_sub, Nat.le_eq, Nat.succ_eq_add_one, Nat.add_one_le_iff, Bool.not_eq_true', Bool.not_eq_false', rng_length, dSpan_mk, dReach_mk, dWay_mk, dStep_mk, dFar_mk, rng_getD, DL.d6, DL.d7, DL.d8]
  exact ⟨⟨h1, h2⟩, fun _ => by unfold suspE; rw [if_pos h1, if_pos h3], fun h => h h3⟩
theorem p25b (N : NetL) (h1 : checkL N ≠ 0) : V25b N := by
  rw [vc25b]; simp only [condP, eq_self, implies_true, and_self, true_and, and_true, true_implies, forall_const, decide_eq_true_eq, decide_eq_false_iff_not, Int.toNat_natCast, dSpan_eSpan, dReach_eReach, dWay_eWay, dStep_eStep, dFar_eFar, dInt_eInt, Nat.zero_add, Int.zero_sub, Nat.le_eq, Nat.succ_eq_add_one, Nat.add_one_le_iff, Bool.not_eq_true', Bool.not_eq_false', rng_length, dSpan_mk, dReach_mk, dWay_mk, dStep_mk, dFar_mk, rng_getD, DL.d6, DL.d7, DL.d8]
  exact ⟨h1, fun _ => by unfold suspE; rw [if_neg h1], fun h => h1 (by simpa using h)⟩
end Go.Bal


namespace Go.Bal
open Go Go.Sym Go.Proofs
def dRow : AVal → Heap → Option (Nat × (Nat → DVal) × List Nat)
  | .d (.list _ n g _), _ => some (n, g, [])
  | .own id _ _ n, H => match H id with
    | .live (.row _ _ g) => some (n, g, [id])
    | _ => none
  | _, _ => none
def dNet : AVal → Heap → Option (NetL × List Nat)
  | .d x, _ => match decNet x with
    | some N => some (N, [])
    | none => none
  | .agg [a, b], H => match dRow a H, dRow b H with
    | some (n, g, f1), some (m, r, f2) => some (⟨rng n fun i => dSpan (g i), rng m fun i => dReach (r i)⟩, f1 ++ f2)
    | _, _ => none
  | _, _ => none
def dInts (a : AVal) (H : Heap) : Option (List Int × List Nat) := match dRow a H with
  | some (n, g, f) => some (rng n fun i => dInt (g i), f)
  | none => none
def dN : List AVal → Heap → Option (NetL × List (Nat × Nat) × List Nat)
  | [x], H => match dNet x H with
    | some (N, f) => some (N, [], f)
    | none => none
  | _, _ => none
def agrM (N : NetL) : Bool := decide (checkL N = 0) && decide (setC N = 0)
def levT (N : NetL) : List Int := if checkL N = 0 then levM N else []
def xsN (N : NetL) : List AVal := [.d (eNetL N)]
def C19t : Ctr := { α := NetL, xs := xsN, val := fun N => .tup [.bool (agrM N), .int (checkL N)] }
def C21t : Ctr := { α := NetL, xs := xsN, val := fun N => .tup [.d (eIntsL (levT N)), .int (checkL N)] }
theorem okT (C : Ctr) {g : FuncId} (h : ∀ a, allP (C.pre a) → FnT Try.prog g (C.xs a) (heapOf (C.L a)) (C.val a) (C.keep a)) (dec : List AVal → Heap → Option (C.α × List (Nat × Nat) × List Nat)) : SpecOk Try.prog g (C.spec dec) := Ctr.spec_ok h dec
theorem ok19t : SpecOk Try.prog 19 (C19t.spec dN) := okT C19t (fun (N : NetL) _ => by
  by_cases h : checkL N = 0
  · have := fnt (A := A19) (xs := C19.xs N) (L := []) (val := C19.val N) (keep := []) (ren := []) (fz := []) Try.func19 (by kernel_rfl) (gok_cons ok55 gok_nil) (p19 N h (settled_ok h).1)
    have e : C19t.val N = C19.val N := by show AVal.tup [.bool (agrM N), .int (checkL N)] = .tup [.bool (decide (setC N = 0)), .int 0]; unfold agrM; rw [h]; rfl
    rw [e]; exact this
  · have := fnt (A := A19b) (xs := C19b.xs N) (L := []) (val := C19b.val N) (keep := []) (ren := []) (fz := []) Try.func19 (by kernel_rfl) (gok_cons ok55b gok_nil) (p19b N h)
    have e : C19t.val N = C19b.val N := by show AVal.tup [.bool (agrM N), .int (checkL N)] = .tup [.bool false, .int (checkL N)]; unfold agrM; rw [decide_eq_false h]; rfl
    rw [e]; exact this) dN
theorem ok21t : SpecOk Try.prog 21 (C21t.spec dN) := okT C21t (fun (N : NetL) _ => by
  by_cases h : checkL N = 0
  · have := fnt (A := A21 N) (xs := C21.xs N) (L := []) (val := C21.val N) (keep := []) (ren := []) (fz := [202]) Try.func21 (by kernel_rfl) (gok_cons ok55 (gok_cons ok57l gok_nil)) (p21 N h (settled_ok h).1 (reach_out_ok h))
    have e : C21t.val N = C21.val N := by show AVal.tup [.d (eIntsL (levT N)), .int (checkL N)] = .tup [.d (eIntsL (levM N)), .int 0]; unfold levT; rw [if_pos h, h]
    rw [e]; exact this
  · have := fnt (A := A21b) (xs := C21b.xs N) (L := []) (val := C21b.val N) (keep := []) (ren := []) (fz := []) Try.func21 (by kernel_rfl) (gok_cons ok55b gok_nil) (p21b N h)
    have e : C21t.val N = C21b.val N := by show AVal.tup [.d (eIntsL (levT N)), .int (checkL N)] = .tup [.d (eIntsL []), .int (checkL N)]; unfold levT; rw [if_neg h]
    rw [e]; exact this) dN
def susT (N : NetL) : List Int := if suspE N = 0 then suspK N N.r.length else []
def C25t : Ctr := { α := NetL, xs := xsN, val := fun N => .tup [.d (eIntsL (susT N)), .int (suspE N)] }
theorem suspE_zero {N : NetL} : suspE N = 0 ↔ checkL N = 0 ∧ setC N ≠ 0 := by
  unfold suspE
  by_cases h : checkL N = 0
  · rw [if_pos h]
    by_cases h2 : setC N = 0
    · rw [if_pos h2]; constructor
      · intro h; cases h
      · intro h; exact absurd h2 h.2
    · rw [if_neg h2]; exact ⟨fun _ => ⟨h, h2⟩, fun _ => rfl⟩
  · rw [if_neg h]; constructor
    · intro h2; exact absurd h2 h
    · intro h2; exact absurd h2.1 h
theorem ok25t : SpecOk Try.prog 25 (C25t.spec dN) := okT C25t (fun (N : NetL) _ => by
  by_cases h : suspE N = 0
  · obtain ⟨h1, h2⟩ := suspE_zero.1 h
    have := fnt (A := A25 N) (xs := C25.xs N) (L := []) (val := C25.val N) (keep := []) (ren := []) (fz := [202]) Try.func25 (by kernel_rfl) (gok_cons ok19 (gok_cons ok67 (gok_cons ok68 (gok_cons ok56 (gok_cons ok69 (gok_cons ok70 gok_nil)))))) (p25 N h1 (settled_ok h1).1 h2 fun i hi => (susp_fit h1 hi).1)
    have e : C25t.val N = C25.val N := by show AVal.tup [.d (eIntsL (susT N)), .int (suspE N)] = .tup [.d (eIntsL (suspK N N.r.length)), .int 0]; unfold susT; rw [if_pos h, h]
    rw [e]; exact this
  · have e : C25t.val N = C25b.val N := by show AVal.tup [.d (eIntsL (susT N)), .int (suspE N)] = .tup [.d (eIntsL []), .int (suspE N)]; unfold susT; rw [if_neg h]
    rw [e]
    by_cases h1 : checkL N = 0
    · have h3 : setC N = 0 := Classical.byContradiction fun hne => h (suspE_zero.2 ⟨h1, hne⟩)
      exact fnt (A := A25e) (xs := C25b.xs N) (L := []) (val := C25b.val N) (keep := []) (ren := []) (fz := []) Try.func25 (by kernel_rfl) (gok_cons ok19 gok_nil) (p25e N h1 (settled_ok h1).1 h3)
    · exact fnt (A := A25b) (xs := C25b.xs N) (L := []) (val := C25b.val N) (keep := []) (ren := []) (fz := []) Try.func25 (by kernel_rfl) (gok_cons ok19b gok_nil) (p25b N h1)) dN
end Go.Bal
