/- Package balance: fitting, Agrees, Correct, Levels. -/
import Derived.Test.YtonddbmhljelgaaBalK
set_option linter.unusedVariables false
set_option linter.unusedSimpArgs false
namespace Go.Bal
open Go Go.Sym Go.Proofs
def A19 : Ann := ann 20 [(55, s55)]
def A19b : Ann := ann 20 [(55, s55b)]
def C19 : Ctr := { α := NetL, xs := fun N => [.d (eNetL N)], L := fun _ => [], val := fun N => .tup [.bool (decide (setC N = 0)), .int 0], keep := fun _ => [], pre := fun N => [checkL N = 0, (settledV N).isSome = true] }
def V19 (N : NetL) : Prop := fnVC Try.prog A19 Try.f19 (bodyOf Try.f19) (C19.xs N) (heapOf (C19.L N)) (C19.val N) (C19.keep N) [] []
theorem vc19 (N : NetL) : (V19 N) = (((rng N.g.length fun (i : Nat) => gD N.g i).length = N.g.length ∧ (∀ (i : Nat), i < (rng N.g.length fun (i : Nat) => gD N.g i).length → (gD (rng N.g.length fun (i : Nat) => gD N.g i)
 i).lo = (gD N.g i).lo ∧ (gD (rng N.g.length fun (i : Nat) => gD N.g i) i).hi = (gD N.g i).hi) ∧ (rng N.r.length fun (i : Nat) => gD N.r i).length = N.r.length ∧ (∀ (i : Nat), i < (rng N.r.length fun (i : Nat) => gD N.r
 i).length → (gD (rng N.r.length fun (i : Nat) => gD N.r i) i).fr = (gD N.r i).fr ∧ (gD (rng N.r.length fun (i : Nat) => gD N.r i) i).to = (gD N.r i).to ∧ (gD (rng N.r.length fun (i : Nat) => gD N.r i) i).sp.lo = (gD N.r
 i).sp.lo ∧ (gD (rng N.r.length fun (i : Nat) => gD N.r i) i).sp.hi = (gD N.r i).sp.hi) ∧ checkL (NetL.mk (rng N.g.length fun (i : Nat) => gD N.g i) (rng N.r.length fun (i : Nat) => gD N.r i)) = (0 : Int) ∧ (settledV
 (NetL.mk (rng N.g.length fun (i : Nat) => gD N.g i) (rng N.r.length fun (i : Nat) => gD N.r i))).isSome = true) ∧ (decide (setC N = (0 : Int)) = bif (0 : Int) == (0 : Int) then setC (NetL.mk (rng N.g.length fun (i : Nat)
 => gD N.g i) (rng N.r.length fun (i : Nat) => gD N.r i)) == (0 : Int) else false) ∧ Int.ofNat (0 : Nat) = Int.ofNat (0 : Nat)) := by kernel_rfl
def C19b : Ctr := { α := NetL, xs := fun N => [.d (eNetL N)], L := fun _ => [], val := fun N => .tup [.bool false, .int (checkL N)], keep := fun _ => [], pre := fun N => [checkL N ≠ 0] }
def V19b (N : NetL) : Prop := fnVC Try.prog A19b Try.f19 (bodyOf Try.f19) (C19b.xs N) (heapOf (C19b.L N)) (C19b.val N) (C19b.keep N) [] []
theorem vc19b (N : NetL) : (V19b N) = (((rng N.g.length fun (i : Nat) => gD N.g i).length = N.g.length ∧ (∀ (i : Nat), i < (rng N.g.length fun (i : Nat) => gD N.g i).length → (gD (rng N.g.length fun (i : Nat) => gD N.g
 i) i).lo = (gD N.g i).lo ∧ (gD (rng N.g.length fun (i : Nat) => gD N.g i) i).hi = (gD N.g i).hi) ∧ (rng N.r.length fun (i : Nat) => gD N.r i).length = N.r.length ∧ (∀ (i : Nat), i < (rng N.r.length fun (i : Nat) => gD
 N.r i).length → (gD (rng N.r.length fun (i : Nat) => gD N.r i) i).fr = (gD N.r i).fr ∧ (gD (rng N.r.length fun (i : Nat) => gD N.r i) i).to = (gD N.r i).to ∧ (gD (rng N.r.length fun (i : Nat) => gD N.r i) i).sp.lo = (gD
 N.r i).sp.lo ∧ (gD (rng N.r.length fun (i : Nat) => gD N.r i) i).sp.hi = (gD N.r i).sp.hi) ∧ (checkL (NetL.mk (rng N.g.length fun (i : Nat) => gD N.g i) (rng N.r.length fun (i : Nat) => gD N.r i)) = 0 → False)) ∧ (false
 = bif checkL (NetL.mk (rng N.g.length fun (i : Nat) => gD N.g i) (rng N.r.length fun (i : Nat) => gD N.r i)) == 0 then 0 == 0 else false) ∧ checkL N = checkL (NetL.mk (rng N.g.length fun (i : Nat) => gD N.g i) (rng
 N.r.length fun (i : Nat) => gD N.r i))) := by kernel_rfl
theorem p19 (N : NetL) (h1 : checkL N = 0) (h2 : (settledV N).isSome = true) : V19 N := by
  rw [vc19]; simp only [condP, eq_self, implies_true, and_self, true_and, and_true, true_implies, forall_const, decide_eq_true_eq, decide_eq_false_iff_not, Int.toNat_natCast, dSpan_eSpan, dReach_eReach, dWay_eWay, dStep_eStep, dFar_eFar, dInt_eInt, Nat.zero_add, Int.zero_sub, Nat.le_eq, Nat.succ_eq_add_one, Nat.add_one_le_iff, Bool.not_eq_true', Bool.not_eq_false', rng_length, dSpan_mk, dReach_mk, dWay_mk, dStep_mk, dFar_mk, rng_getD, DL.d6, DL.d7, DL.d8]
  exact ⟨⟨h1, h2⟩, by by_cases h : setC N = 0 <;> simp [h]⟩
theorem p19b (N : NetL) (h1 : checkL N ≠ 0) : V19b N := by
  rw [vc19b]; simp only [condP, eq_self, implies_true, and_self, true_and, and_true, true_implies, forall_const, decide_eq_true_eq, decide_eq_false_iff_not, Int.toNat_natCast, dSpan_eSpan, dReach_eReach, dWay_eWay, dStep_eStep, dFar_eFar, dInt_eInt, Nat.zero_add, Int.zero_sub, Nat.le_eq, Nat.succ_eq_add_one, Nat.add_one_le_iff, Bool.not_eq_true', Bool.not_eq_false', rng_length, dSpan_mk, dReach_mk, dWay_mk, dStep_mk, dFar_mk, rng_getD, DL.d6, DL.d7, DL.d8]
  exact ⟨h1, by simp [h1]⟩
def zT : TruthL := ⟨[], []⟩
def A20 : Ann := ann 21 [(55, s55), (56, C56.spec dDesk)]
def A20b : Ann := ann 21 [(55, s55b)]
def C20 : Ctr := { α := NetL, xs := fun N => [.d (eNetL N)], L := fun _ => [], val := fun N => .tup [.d (eTruthL (truthM (setD N))), .int (setC N), .int 0], keep := fun _ => [], pre := fun N => [checkL N = 0, (settledV N).isSome = true] }
def V20 (N : NetL) : Prop := fnVC Try.prog A20 Try.f20 (bodyOf Try.f20) (C20.xs N) (heapOf (C20.L N)) (C20.val N) (C20.keep N) [] [5016, 5017]
abbrev z20_0 (N : NetL) : List Span := rng N.g.length fun (i : Nat) => gD N.g i
abbrev z20_1 (N : NetL) : Nat := (z20_0 N).length
abbrev z20_2 (N : NetL) (i : Nat) : Span := gD (z20_0 N) i
abbrev z20_3 (N : NetL) : List Reach := rng N.r.length fun (i : Nat) => gD N.r i
abbrev z20_4 (N : NetL) : Nat := (z20_3 N).length
abbrev z20_5 (N : NetL) (i : Nat) : Reach := gD (z20_3 N) i
abbrev z20_6 (N : NetL) (i : Nat) : Span := (z20_5 N i).sp
abbrev z20_7 (N : NetL) : NetL := NetL.mk (z20_0 N) (z20_3 N)
abbrev z20_8 : Prop := (0 : Nat) = (0 : Nat)
abbrev z20_9 (N : NetL) : Desk := setD (z20_7 N)
abbrev z20_10 (N : NetL) : List Way := (z20_9 N).all
abbrev z20_11 (N : NetL) : Nat := (z20_10 N).length
abbrev z20_12 (N : NetL) (i : Nat) : Way := gD (z20_10 N) i
abbrev z20_13 (N : NetL) : List Way := rng (z20_11 N) fun (i : Nat) => z20_12 N i
abbrev z20_14 (N : NetL) : Nat := (z20_13 N).length
abbrev z20_15 (N : NetL) : Prop := z20_14 N = z20_11 N
abbrev z20_16 (N : NetL) : Nat := (z20_9 N).out
abbrev z20_17 (N : NetL) : Prop := (↑(z20_16 N) : Int) = (↑(z20_16 N) : Int)
abbrev z20_18 (N : NetL) : Nat := (z20_9 N).nR
abbrev z20_19 (N : NetL) : Prop := (↑(z20_18 N) : Int) = (↑(z20_18 N) : Int)
abbrev z20_20 (N : NetL) (i : Nat) : Way := gD (z20_13 N) i
abbrev z20_21 (N : NetL) (i : Nat) : Int := (z20_20 N i).fr
abbrev z20_22 (N : NetL) (i : Nat) : Int := (z20_12 N i).fr
abbrev z20_23 (N : NetL) (i : Nat) : Int := (z20_20 N i).to
abbrev z20_24 (N : NetL) (i : Nat) : Int := (z20_12 N i).to
abbrev z20_25 (N : NetL) (i : Nat) : Span := (z20_20 N i).sp
abbrev z20_26 (N : NetL) (i : Nat) : Int := (z20_25 N i).lo
abbrev z20_27 (N : NetL) (i : Nat) : Span := (z20_12 N i).sp
abbrev z20_28 (N : NetL) (i : Nat) : Int := (z20_27 N i).lo
abbrev z20_29 (N : NetL) (i : Nat) : Int := (z20_25 N i).hi
abbrev z20_30 (N : NetL) (i : Nat) : Int := (z20_27 N i).hi
abbrev z20_31 (N : NetL) (i : Nat) : Int := (z20_20 N i).now
abbrev z20_32 (N : NetL) (i : Nat) : Int := (z20_12 N i).now
abbrev z20_33 (N : NetL) : Prop := z20_11 N = z20_14 N
abbrev z20_34 (N : NetL) : TruthL := truthM (Desk.mk (z20_13 N) (z20_16 N) (z20_18 N))
abbrev z20_35 (j : Nat) : Nat := (0 : Nat) + j
theorem vc20 (N : NetL) : (V20 N) = ((z20_1 N = N.g.length ∧ (∀ (i : Nat), i < z20_1 N → (z20_2 N i).lo = (gD N.g i).lo ∧ (z20_2 N i).hi = (gD N.g i).hi) ∧ z20_4 N = N.r.length ∧ (∀ (i : Nat), i < z20_4 N → (z20_5 N
 i).fr = (gD N.r i).fr ∧ (z20_5 N i).to = (gD N.r i).to ∧ (z20_6 N i).lo = (gD N.r i).sp.lo ∧ (z20_6 N i).hi = (gD N.r i).sp.hi) ∧ checkL (z20_7 N) = (0 : Int) ∧ (settledV (z20_7 N)).isSome = true) ∧ (z20_8 ∧ z20_15 N ∧
 z20_17 N ∧ z20_19 N ∧ z20_15 N ∧ (∀ (i : Nat), i < z20_14 N → z20_21 N i = z20_22 N i ∧ z20_23 N i = z20_24 N i ∧ z20_26 N i = z20_28 N i ∧ z20_29 N i = z20_30 N i ∧ z20_31 N i = z20_32 N i) ∧ z20_8 ∧ z20_33 N ∧ z20_17 N
 ∧ z20_19 N ∧ z20_33 N ∧ (∀ (i : Nat), i < z20_11 N → z20_22 N i = z20_21 N i ∧ z20_24 N i = z20_23 N i ∧ z20_28 N i = z20_26 N i ∧ z20_30 N i = z20_29 N i ∧ z20_32 N i = z20_31 N i) ∧ ((1 : Nat) ≤ z20_16 N ∧ z20_14 N ≤
 (1000 : Nat)) ∧ (z20_18 N + z20_16 N).le (z20_14 N)) ∧ (truthM (setD N)).f.length = z20_18 N ∧ (0 : Nat) + z20_18 N ≤ z20_18 N ∧ (∀ (j : Nat), j < (truthM (setD N)).f.length → gD (truthM (setD N)).f j = gD (z20_34 N).f
 (z20_35 j)) ∧ (truthM (setD N)).t.length = z20_16 N ∧ (0 : Nat) + z20_16 N ≤ z20_16 N ∧ (∀ (j : Nat), j < (truthM (setD N)).t.length → gD (truthM (setD N)).t j = gD (z20_34 N).t (z20_35 j)) ∧ setC N = setC (z20_7 N) ∧
 Int.ofNat (0 : Nat) = Int.ofNat (0 : Nat)) := by kernel_rfl
def C20b : Ctr := { α := NetL, xs := fun N => [.d (eNetL N)], L := fun _ => [], val := fun N => .tup [.d (eTruthL zT), .int 0, .int (checkL N)], keep := fun _ => [], pre := fun N => [checkL N ≠ 0] }
def V20b (N : NetL) : Prop := fnVC Try.prog A20b Try.f20 (bodyOf Try.f20) (C20b.xs N) (heapOf (C20b.L N)) (C20b.val N) (C20b.keep N) [] []
theorem vc20b (N : NetL) : (V20b N) = (((rng N.g.length fun (i : Nat) => gD N.g i).length = N.g.length ∧ (∀ (i : Nat), i < (rng N.g.length fun (i : Nat) => gD N.g i).length → (gD (rng N.g.length fun (i : Nat) => gD N.g
 i) i).lo = (gD N.g i).lo ∧ (gD (rng N.g.length fun (i : Nat) => gD N.g i) i).hi = (gD N.g i).hi) ∧ (rng N.r.length fun (i : Nat) => gD N.r i).length = N.r.length ∧ (∀ (i : Nat), i < (rng N.r.length fun (i : Nat) => gD
 N.r i).length → (gD (rng N.r.length fun (i : Nat) => gD N.r i) i).fr = (gD N.r i).fr ∧ (gD (rng N.r.length fun (i : Nat) => gD N.r i) i).to = (gD N.r i).to ∧ (gD (rng N.r.length fun (i : Nat) => gD N.r i) i).sp.lo = (gD
 N.r i).sp.lo ∧ (gD (rng N.r.length fun (i : Nat) => gD N.r i) i).sp.hi = (gD N.r i).sp.hi) ∧ (checkL (NetL.mk (rng N.g.length fun (i : Nat) => gD N.g i) (rng N.r.length fun (i : Nat) => gD N.r i)) = (0 : Int) → False)) ∧
 bif checkL (NetL.mk (rng N.g.length fun (i : Nat) => gD N.g i) (rng N.r.length fun (i : Nat) => gD N.r i)) != (0 : Int) then (0 : Nat) = (0 : Nat) ∧ (0 : Nat) = (0 : Nat) ∧ (0 : Nat) = (0 : Nat) ∧ (0 : Nat) = (0 : Nat) ∧
 Int.ofNat (0 : Nat) = Int.ofNat (0 : Nat) ∧ checkL N = checkL (NetL.mk (rng N.g.length fun (i : Nat) => gD N.g i) (rng N.r.length fun (i : Nat) => gD N.r i)) else False) := by kernel_rfl
theorem p20 (N : NetL) (h1 : checkL N = 0) (h2 : (settledV N).isSome = true) : V20 N := by
  rw [vc20]; delta z20_0 z20_1 z20_2 z20_3 z20_4 z20_5 z20_6 z20_7 z20_8 z20_9 z20_10 z20_11 z20_12 z20_13 z20_14 z20_15 z20_16 z20_17 z20_18 z20_19 z20_20 z20_21 z20_22 z20_23 z20_24 z20_25 z20_26 z20_27 z20_28 z20_29 z20_30 z20_31 z20_32 z20_33 z20_34 z20_35; simp only [condP, eq_self, implies_true, and_self, true_and, and_true, true_implies, forall_const, decide_eq_true_eq, decide_eq_false_iff_not, Int.toNat_natCast, dSpan_eSpan, dReach_eReach, dWay_eWay, dStep_eStep, dFar_eFar, dInt_eInt, Nat.zero_add, Int.zero_sub, Nat.le_eq, Nat.succ_eq_add_one, Nat.add_one_le_iff, Bool.not_eq_true', Bool.not_eq_false', rng_length, dSpan_mk, dReach_mk, dWay_mk, dStep_mk, dFar_mk, rng_getD, DL.d6, DL.d7, DL.d8]
  obtain ⟨l1, l2, l3⟩ := set_len h2
  have hg := good_of h1
  have := hg.g1
  have := hg.g8
  have := hg.r14
  refine ⟨⟨h1, h2⟩, ⟨⟨by omega, by omega⟩, by omega⟩, ?_⟩
  simp [truth_fl, truth_tl]
theorem p20b (N : NetL) (h1 : checkL N ≠ 0) : V20b N := by
  rw [vc20b]; simp only [condP, eq_self, implies_true, and_self, true_and, and_true, true_implies, forall_const, decide_eq_true_eq, decide_eq_false_iff_not, Int.toNat_natCast, dSpan_eSpan, dReach_eReach, dWay_eWay, dStep_eStep, dFar_eFar, dInt_eInt, Nat.zero_add, Int.zero_sub, Nat.le_eq, Nat.succ_eq_add_one, Nat.add_one_le_iff, Bool.not_eq_true', Bool.not_eq_false', rng_length, dSpan_mk, dReach_mk, dWay_mk, dStep_mk, dFar_mk, rng_getD, DL.d6, DL.d7, DL.d8]
  exact ⟨h1, by simp [h1]⟩
def A73 : Ann := ann 21 [(55, s55)]
def C73 : Ctr := { α := NetL, xs := fun N => [.d (eNetL N)], L := fun _ => [], val := fun N => .tup [.bptr 0 0, .int 0], keep := fun N => [(0, .live (deskB (setD N) 1)), (1, .live (deskR (setD N)))], pre := fun N => [checkL N = 0, (settledV N).isSome = true, ¬ 0 < setC N] }
def V73 (N : NetL) : Prop := fnVC Try.prog A73 Try.f73 (bodyOf Try.f73) (C73.xs N) (heapOf (C73.L N)) (C73.val N) (C73.keep N) [(0, 2016), (1, 2017)] []
theorem vc73 (N : NetL) : (V73 N) = (((rng N.g.length fun (i : Nat) => gD N.g i).length = N.g.length ∧ (∀ (i : Nat), i < (rng N.g.length fun (i : Nat) => gD N.g i).length → (gD (rng N.g.length fun (i : Nat) => gD N.g i)
 i).lo = (gD N.g i).lo ∧ (gD (rng N.g.length fun (i : Nat) => gD N.g i) i).hi = (gD N.g i).hi) ∧ (rng N.r.length fun (i : Nat) => gD N.r i).length = N.r.length ∧ (∀ (i : Nat), i < (rng N.r.length fun (i : Nat) => gD N.r
 i).length → (gD (rng N.r.length fun (i : Nat) => gD N.r i) i).fr = (gD N.r i).fr ∧ (gD (rng N.r.length fun (i : Nat) => gD N.r i) i).to = (gD N.r i).to ∧ (gD (rng N.r.length fun (i : Nat) => gD N.r i) i).sp.lo = (gD N.r
 i).sp.lo ∧ (gD (rng N.r.length fun (i : Nat) => gD N.r i) i).sp.hi = (gD N.r i).sp.hi) ∧ checkL (NetL.mk (rng N.g.length fun (i : Nat) => gD N.g i) (rng N.r.length fun (i : Nat) => gD N.r i)) = (0 : Int) ∧ (settledV
 (NetL.mk (rng N.g.length fun (i : Nat) => gD N.g i) (rng N.r.length fun (i : Nat) => gD N.r i))).isSome = true) ∧ bif bif (0 : Int) == (0 : Int) then decide (setC (NetL.mk (rng N.g.length fun (i : Nat) => gD N.g i) (rng
 N.r.length fun (i : Nat) => gD N.r i)) > (0 : Int)) else false then Int.ofNat (0 : Nat) = Int.ofNat (6 : Nat) ∧ (0 : Nat) = (0 : Nat) ∧ (setD N).all.length = (setD (NetL.mk (rng N.g.length fun (i : Nat) => gD N.g i) (rng
 N.r.length fun (i : Nat) => gD N.r i))).all.length ∧ (↑(setD N).out : Int) = (↑(setD (NetL.mk (rng N.g.length fun (i : Nat) => gD N.g i) (rng N.r.length fun (i : Nat) => gD N.r i))).out : Int) ∧ (↑(setD N).nR : Int) =
 (↑(setD (NetL.mk (rng N.g.length fun (i : Nat) => gD N.g i) (rng N.r.length fun (i : Nat) => gD N.r i))).nR : Int) ∧ (setD N).all.length = (setD (NetL.mk (rng N.g.length fun (i : Nat) => gD N.g i) (rng N.r.length fun (i
 : Nat) => gD N.r i))).all.length ∧ ∀ (i : Nat), i < (setD N).all.length → (gD (setD N).all i).fr = (gD (setD (NetL.mk (rng N.g.length fun (i : Nat) => gD N.g i) (rng N.r.length fun (i : Nat) => gD N.r i))).all i).fr ∧
 (gD (setD N).all i).to = (gD (setD (NetL.mk (rng N.g.length fun (i : Nat) => gD N.g i) (rng N.r.length fun (i : Nat) => gD N.r i))).all i).to ∧ (gD (setD N).all i).sp.lo = (gD (setD (NetL.mk (rng N.g.length fun (i : Nat)
 => gD N.g i) (rng N.r.length fun (i : Nat) => gD N.r i))).all i).sp.lo ∧ (gD (setD N).all i).sp.hi = (gD (setD (NetL.mk (rng N.g.length fun (i : Nat) => gD N.g i) (rng N.r.length fun (i : Nat) => gD N.r i))).all i).sp.hi
 ∧ (gD (setD N).all i).now = (gD (setD (NetL.mk (rng N.g.length fun (i : Nat) => gD N.g i) (rng N.r.length fun (i : Nat) => gD N.r i))).all i).now else Int.ofNat (0 : Nat) = Int.ofNat (0 : Nat) ∧ (0 : Nat) = (0 : Nat) ∧
 (setD N).all.length = (setD (NetL.mk (rng N.g.length fun (i : Nat) => gD N.g i) (rng N.r.length fun (i : Nat) => gD N.r i))).all.length ∧ (↑(setD N).out : Int) = (↑(setD (NetL.mk (rng N.g.length fun (i : Nat) => gD N.g
 i) (rng N.r.length fun (i : Nat) => gD N.r i))).out : Int) ∧ (↑(setD N).nR : Int) = (↑(setD (NetL.mk (rng N.g.length fun (i : Nat) => gD N.g i) (rng N.r.length fun (i : Nat) => gD N.r i))).nR : Int) ∧ (setD N).all.length
 = (setD (NetL.mk (rng N.g.length fun (i : Nat) => gD N.g i) (rng N.r.length fun (i : Nat) => gD N.r i))).all.length ∧ ∀ (i : Nat), i < (setD N).all.length → (gD (setD N).all i).fr = (gD (setD (NetL.mk (rng N.g.length fun
 (i : Nat) => gD N.g i) (rng N.r.length fun (i : Nat) => gD N.r i))).all i).fr ∧ (gD (setD N).all i).to = (gD (setD (NetL.mk (rng N.g.length fun (i : Nat) => gD N.g i) (rng N.r.length fun (i : Nat) => gD N.r i))).all
 i).to ∧ (gD (setD N).all i).sp.lo = (gD (setD (NetL.mk (rng N.g.length fun (i : Nat) => gD N.g i) (rng N.r.length fun (i : Nat) => gD N.r i))).all i).sp.lo ∧ (gD (setD N).all i).sp.hi = (gD (setD (NetL.mk (rng N.g.length
 fun (i : Nat) => gD N.g i) (rng N.r.length fun (i : Nat) => gD N.r i))).all i).sp.hi ∧ (gD (setD N).all i).now = (gD (setD (NetL.mk (rng N.g.length fun (i : Nat) => gD N.g i) (rng N.r.length fun (i : Nat) => gD N.r
 i))).all i).now) := by kernel_rfl
theorem p73 (N : NetL) (h1 : checkL N = 0) (h2 : (settledV N).isSome = true) (h3 : ¬ 0 < setC N) : V73 N := by
  rw [vc73]; simp only [condP, eq_self, implies_true, and_self, true_and, and_true, true_implies, forall_const, decide_eq_true_eq, decide_eq_false_iff_not, Int.toNat_natCast, dSpan_eSpan, dReach_eReach, dWay_eWay, dStep_eStep, dFar_eFar, dInt_eInt, Nat.zero_add, Int.zero_sub, Nat.le_eq, Nat.succ_eq_add_one, Nat.add_one_le_iff, Bool.not_eq_true', Bool.not_eq_false', rng_length, dSpan_mk, dReach_mk, dWay_mk, dStep_mk, dFar_mk, rng_getD, DL.d6, DL.d7, DL.d8]
  exact ⟨⟨h1, h2⟩, by simp; omega⟩
def levM (N : NetL) : List Int := (List.range N.g.length).map fun (i : Nat) => wr (-((rOf (setD N) any N.g.length).m.far i).cost)
def levH (N : NetL) : List (Nat × HCell) := [(201, .live (mapO (rOf (setD N) any N.g.length).m (rOf (setD N) any N.g.length).st))]
def A21 (N : NetL) : Ann := { ann 43 [(55, s55), (57, s57l)] with mt := fun id => id == 9, loops := fun id => if id = 7 then some [{ α := Nat, dflt := 0, T := fun k => ⟨[(7, .mref 201), (8, .d nilL), (29, .int N.g.length), (30, .int k)], levH N⟩, inv := fun k => k = 0, meas := fun _ => N.g.length, first := [(201, 5112)] }, { α := Nat, dflt := 0, T := fun k => ⟨[(7, .mref 201), (8, .own 202 1 0 k), (29, .int N.g.length), (30, .int k)], levH N ++ [(202, rowL k (levM N))]⟩, inv := fun k => k ≤ N.g.length, meas := fun k => N.g.length - k, again := [(202, 10112)] }] else none }
def C21 : Ctr := { α := NetL, xs := fun N => [.d (eNetL N)], L := fun _ => [], val := fun N => .tup [.d (eIntsL (levM N)), .int 0], keep := fun _ => [], pre := fun N => [checkL N = 0, (settledV N).isSome = true, (reachV (setD N) any N.g.length).isSome = true] }
def V21 (N : NetL) : Prop := fnVC Try.prog (A21 N) Try.f21 (bodyOf Try.f21) (C21.xs N) (heapOf (C21.L N)) (C21.val N) (C21.keep N) [] [202]
abbrev z21_0 (N : NetL) : List Span := rng N.g.length fun (i : Nat) => gD N.g i
abbrev z21_1 (N : NetL) : Nat := (z21_0 N).length
abbrev z21_2 (N : NetL) (i : Nat) : Span := gD (z21_0 N) i
abbrev z21_3 (N : NetL) : List Reach := rng N.r.length fun (i : Nat) => gD N.r i
abbrev z21_4 (N : NetL) : Nat := (z21_3 N).length
abbrev z21_5 (N : NetL) (i : Nat) : Reach := gD (z21_3 N) i
abbrev z21_6 (N : NetL) (i : Nat) : Span := (z21_5 N i).sp
abbrev z21_7 (N : NetL) : NetL := NetL.mk (z21_0 N) (z21_3 N)
abbrev z21_8 (N : NetL) : Desk := setD (z21_7 N)
abbrev z21_9 (N : NetL) : Nat := (z21_8 N).out
abbrev z21_10 (N : NetL) : Prop := (↑(z21_9 N) : Int) = (↑(z21_9 N) : Int)
abbrev z21_11 : Prop := (0 : Nat) = (0 : Nat)
abbrev z21_12 (N : NetL) : List Way := (z21_8 N).all
abbrev z21_13 (N : NetL) : Nat := (z21_12 N).length
abbrev z21_14 (N : NetL) (i : Nat) : Way := gD (z21_12 N) i
abbrev z21_15 (N : NetL) : List Way := rng (z21_13 N) fun (i : Nat) => z21_14 N i
abbrev z21_16 (N : NetL) : Nat := (z21_15 N).length
abbrev z21_17 (N : NetL) : Prop := z21_16 N = z21_13 N
abbrev z21_18 (N : NetL) : Nat := (z21_8 N).nR
abbrev z21_19 (N : NetL) : Prop := (↑(z21_18 N) : Int) = (↑(z21_18 N) : Int)
abbrev z21_20 (N : NetL) (i : Nat) : Way := gD (z21_15 N) i
abbrev z21_21 (N : NetL) (i : Nat) : Int := (z21_20 N i).fr
abbrev z21_22 (N : NetL) (i : Nat) : Int := (z21_14 N i).fr
abbrev z21_23 (N : NetL) (i : Nat) : Int := (z21_20 N i).to
abbrev z21_24 (N : NetL) (i : Nat) : Int := (z21_14 N i).to
abbrev z21_25 (N : NetL) (i : Nat) : Span := (z21_20 N i).sp
abbrev z21_26 (N : NetL) (i : Nat) : Int := (z21_25 N i).lo
abbrev z21_27 (N : NetL) (i : Nat) : Span := (z21_14 N i).sp
abbrev z21_28 (N : NetL) (i : Nat) : Int := (z21_27 N i).lo
abbrev z21_29 (N : NetL) (i : Nat) : Int := (z21_25 N i).hi
abbrev z21_30 (N : NetL) (i : Nat) : Int := (z21_27 N i).hi
abbrev z21_31 (N : NetL) (i : Nat) : Int := (z21_20 N i).now
abbrev z21_32 (N : NetL) (i : Nat) : Int := (z21_14 N i).now
abbrev z21_33 (N : NetL) : Prop := z21_13 N = z21_16 N
abbrev z21_34 (N : NetL) : Desk := Desk.mk (z21_15 N) (z21_9 N) (z21_18 N)
abbrev z21_35 (N : NetL) : Prop := (↑N.g.length : Int) = (↑N.g.length : Int)
abbrev z21_36 (N : NetL) : RT := rOf (setD N) any (↑N.g.length : Int)
abbrev z21_37 (N : NetL) : Map := (z21_36 N).m
abbrev z21_38 (N : NetL) (n : Int) : Bool := ((z21_37 N).at n).isSome
abbrev z21_39 (N : NetL) : RT := rOf (z21_34 N) RL.counts (↑(z21_9 N) : Int)
abbrev z21_40 (N : NetL) : Map := (z21_39 N).m
abbrev z21_41 (N : NetL) (n : Int) : Int := (z21_36 N).st n
abbrev z21_42 (N : NetL) (n : Int) : Far := (z21_37 N).far n
abbrev z21_43 (N : NetL) (n : Int) : Int := (z21_42 N n).cost
abbrev z21_44 (N : NetL) (n : Int) : Far := (z21_40 N).far n
abbrev z21_45 (N : NetL) (n : Int) : Int := (z21_42 N n).many
abbrev z21_46 (N : NetL) (n : Int) : Step := (z21_42 N n).by'
abbrev z21_47 (N : NetL) (n : Int) : Int := (z21_46 N n).way
abbrev z21_48 (N : NetL) (n : Int) : Step := (z21_44 N n).by'
abbrev z21_49 (N : NetL) (n : Int) : Bool := (z21_46 N n).back
abbrev z21_50 (a : Nat) (N : NetL) : Bool := decide ((↑a : Int) < (↑N.g.length : Int))
abbrev z21_51 : Prop := Value.agg #[Value.int IntKind.i64 (0 : Int), Value.int IntKind.i64 (0 : Int), Value.int IntKind.i64 (0 : Int), Value.bool false] = zFar
abbrev z21_52 : Prop := (0 : Nat) < (1 : Nat)
abbrev z21_53 : Prop := (1 : Nat) = (1 : Nat)
abbrev z21_54 : Prop := (1 : Nat) ≤ (1 : Nat) ∧ (z21_52 → z21_53)
abbrev z21_55 (a : Nat) (a1 : Nat) : Prop := (↑a : Int) = IntKind.i64.wrap ((↑a1 : Int) + (1 : Int))
abbrev z21_56 (N : NetL) : Prop := ∀ (n : Int), z21_38 N n = z21_38 N n
abbrev z21_57 (N : NetL) : Prop := ∀ (n : Int), z21_41 N n = z21_41 N n
abbrev z21_58 (N : NetL) : Prop := ∀ (n : Int), z21_43 N n = z21_43 N n ∧ z21_45 N n = z21_45 N n ∧ z21_47 N n = z21_47 N n ∧ z21_49 N n = z21_49 N n
abbrev z21_59 (N : NetL) (a : Nat) : Int := IntKind.i64.wrap ((0 : Int) - ((z21_37 N).far (↑a : Int)).cost)
abbrev z21_60 (N : NetL) (a : Nat) : Nat := N.g.length - a
abbrev z21_61 (N : NetL) : Prop := (levM N).length = (0 : Nat)
abbrev z21_62 : Prop := Int.ofNat (0 : Nat) = Int.ofNat (0 : Nat)
abbrev z21_63 (a : Nat) : Nat := a + (1 : Nat)
abbrev z21_64 (a : Nat) (a1 : Nat) : Prop := a = z21_63 a1
abbrev z21_65 (a : Nat) : Nat := (0 : Nat) + a
theorem vc21 (N : NetL) : (V21 N) = ((z21_1 N = N.g.length ∧ (∀ (i : Nat), i < z21_1 N → (z21_2 N i).lo = (gD N.g i).lo ∧ (z21_2 N i).hi = (gD N.g i).hi) ∧ z21_4 N = N.r.length ∧ (∀ (i : Nat), i < z21_4 N → (z21_5 N
 i).fr = (gD N.r i).fr ∧ (z21_5 N i).to = (gD N.r i).to ∧ (z21_6 N i).lo = (gD N.r i).sp.lo ∧ (z21_6 N i).hi = (gD N.r i).sp.hi) ∧ checkL (z21_7 N) = (0 : Int) ∧ (settledV (z21_7 N)).isSome = true) ∧ (z21_10 N ∧ z21_11 ∧
 z21_17 N ∧ z21_10 N ∧ z21_19 N ∧ z21_17 N ∧ (∀ (i : Nat), i < z21_16 N → z21_21 N i = z21_22 N i ∧ z21_23 N i = z21_24 N i ∧ z21_26 N i = z21_28 N i ∧ z21_29 N i = z21_30 N i ∧ z21_31 N i = z21_32 N i) ∧ z21_11 ∧ z21_33
 N ∧ z21_10 N ∧ z21_19 N ∧ z21_33 N ∧ (∀ (i : Nat), i < z21_13 N → z21_22 N i = z21_21 N i ∧ z21_24 N i = z21_23 N i ∧ z21_28 N i = z21_26 N i ∧ z21_30 N i = z21_29 N i ∧ z21_32 N i = z21_31 N i) ∧ (z21_34 N).ok ∧ ((0 :
 Int) ≤ (↑(z21_9 N) : Int) ∧ (↑(z21_9 N) : Int) < (↑(z21_9 N) : Int) + (2 : Int)) ∧ (reachV (z21_34 N) RL.counts (↑(z21_9 N) : Int)).isSome = true) ∧ (∃ (a : Nat), (z21_11 ∧ (∀ (i : Nat), i < (0 : Nat) → false = false) ∧
 z21_35 N ∧ (↑a : Int) = (0 : Int) ∧ zFar = zFar ∧ (∀ (n : Int), z21_38 N n = ((z21_40 N).at n).isSome) ∧ (∀ (n : Int), z21_41 N n = (z21_39 N).st n) ∧ ∀ (n : Int), z21_43 N n = (z21_44 N n).cost ∧ z21_45 N n = (z21_44 N
 n).many ∧ z21_47 N n = (z21_48 N n).way ∧ z21_49 N n = (z21_48 N n).back) ∧ a = (0 : Nat)) ∧ (∀ (a : Nat), a = (0 : Nat) → bif z21_50 a N then (z21_51 ∧ (True ∧ ((0 : Nat) < (0 : Nat) → (0 : Nat) = (1 : Nat))) ∧ z21_54 ∧
 (true = true → z21_52) ∧ (1 : Nat) ≤ (9223372036854775807 : Nat) ∧ (8 : Nat) ≤ (140737488355328 : Nat)) ∧ ∃ (a_2 : Nat), (z21_11 ∧ a_2 = (1 : Nat) ∧ z21_35 N ∧ z21_55 a_2 a ∧ zFar = zFar ∧ z21_56 N ∧ z21_57 N ∧ z21_58 N
 ∧ a_2 = (1 : Nat) ∧ ∀ (i : Nat), i < a_2 → gD (levM N) i = z21_59 N a) ∧ a_2.le N.g.length ∧ z21_60 N a_2 < N.g.length else z21_61 N ∧ z21_61 N ∧ z21_62) ∧ ∀ (a : Nat), a.le N.g.length → bif z21_50 a N then (z21_51 ∧ (a
 = a ∧ ((0 : Nat) < a → z21_53)) ∧ z21_54 ∧ (false = true → z21_52) ∧ z21_63 a ≤ (9223372036854775807 : Nat) ∧ z21_63 a * (8 : Nat) ≤ (140737488355328 : Nat)) ∧ ∃ (a_2 : Nat), (z21_11 ∧ z21_64 a_2 a ∧ z21_35 N ∧ z21_55
 a_2 a ∧ zFar = zFar ∧ z21_56 N ∧ z21_57 N ∧ z21_58 N ∧ z21_64 a_2 a ∧ ∀ (i : Nat), i < a_2 → gD (levM N) i = bif decide (i < a) then gD (levM N) i else z21_59 N a) ∧ a_2.le N.g.length ∧ z21_60 N a_2 < z21_60 N a else
 (levM N).length = a ∧ z21_65 a ≤ a ∧ (∀ (j : Nat), j < (levM N).length → gD (levM N) j = gD (levM N) (z21_65 j)) ∧ z21_62) := by kernel_rfl
def A21b : Ann := ann 43 [(55, s55b)]
def C21b : Ctr := { α := NetL, xs := fun N => [.d (eNetL N)], L := fun _ => [], val := fun N => .tup [.d (eIntsL []), .int (checkL N)], keep := fun _ => [], pre := fun N => [checkL N ≠ 0] }
def V21b (N : NetL) : Prop := fnVC Try.prog A21b Try.f21 (bodyOf Try.f21) (C21b.xs N) (heapOf (C21b.L N)) (C21b.val N) (C21b.keep N) [] []
theorem vc21b (N : NetL) : (V21b N) = (((rng N.g.length fun (i : Nat) => gD N.g i).length = N.g.length ∧ (∀ (i : Nat), i < (rng N.g.length fun (i : Nat) => gD N.g i).length → (gD (rng N.g.length fun (i : Nat) => gD N.g
 i) i).lo = (gD N.g i).lo ∧ (gD (rng N.g.length fun (i : Nat) => gD N.g i) i).hi = (gD N.g i).hi) ∧ (rng N.r.length fun (i : Nat) => gD N.r i).length = N.r.length ∧ (∀ (i : Nat), i < (rng N.r.length fun (i : Nat) => gD
 N.r i).length → (gD (rng N.r.length fun (i : Nat) => gD N.r i) i).fr = (gD N.r i).fr ∧ (gD (rng N.r.length fun (i : Nat) => gD N.r i) i).to = (gD N.r i).to ∧ (gD (rng N.r.length fun (i : Nat) => gD N.r i) i).sp.lo = (gD
 N.r i).sp.lo ∧ (gD (rng N.r.length fun (i : Nat) => gD N.r i) i).sp.hi = (gD N.r i).sp.hi) ∧ (checkL (NetL.mk (rng N.g.length fun (i : Nat) => gD N.g i) (rng N.r.length fun (i : Nat) => gD N.r i)) = 0 → False)) ∧ bif
 checkL (NetL.mk (rng N.g.length fun (i : Nat) => gD N.g i) (rng N.r.length fun (i : Nat) => gD N.r i)) != 0 then 0 = 0 ∧ 0 = 0 ∧ checkL N = checkL (NetL.mk (rng N.g.length fun (i : Nat) => gD N.g i) (rng N.r.length fun
 (i : Nat) => gD N.r i)) else False) := by kernel_rfl
theorem p21 (N : NetL) (h1 : checkL N = 0) (h2 : (settledV N).isSome = true) (h3 : (reachV (setD N) any N.g.length).isSome = true) : V21 N := by
  rw [vc21]; delta z21_0 z21_1 z21_2 z21_3 z21_4 z21_5 z21_6 z21_7 z21_8 z21_9 z21_10 z21_11 z21_12 z21_13 z21_14 z21_15 z21_16 z21_17 z21_18 z21_19 z21_20 z21_21 z21_22 z21_23 z21_24 z21_25 z21_26 z21_27 z21_28 z21_29 z21_30 z21_31 z21_32 z21_33 z21_34 z21_35 z21_36 z21_37 z21_38 z21_39 z21_40 z21_41 z21_42 z21_43 z21_44 z21_45 z21_46 z21_47 z21_48 z21_49 z21_50 z21_51 z21_52 z21_53 z21_54 z21_55 z21_56 z21_57 z21_58 z21_59 z21_60 z21_61 z21_62 z21_63 z21_64 z21_65; simp only [condP, eq_self, implies_true, and_self, true_and, and_true, true_implies, forall_const, decide_eq_true_eq, decide_eq_false_iff_not, Int.toNat_natCast, dSpan_eSpan, dReach_eReach, dWay_eWay, dStep_eStep, dFar_eFar, dInt_eInt, Nat.zero_add, Int.zero_sub, Nat.le_eq, Nat.succ_eq_add_one, Nat.add_one_le_iff, Bool.not_eq_true', Bool.not_eq_false', rng_length, dSpan_mk, dReach_mk, dWay_mk, dStep_mk, dFar_mk, rng_getD, DL.d6, DL.d7, DL.d8]
  obtain ⟨l1, l2, l3⟩ := set_len h2
  have hg := good_of h1
  have g8 := hg.g8
  have hRL : RL.counts = any := rfl
  have hln : (levM N).length = N.g.length := by simp [levM]
  have hgd : ∀ i, i < N.g.length → gD (levM N) i = wr (-((rOf (setD N) any N.g.length).m.far i).cost) := fun i hi => gD_range (fun (i : Nat) => wr (-((rOf (setD N) any N.g.length).m.far i).cost)) hi
  rw [hRL, l2]
  refine ⟨⟨h1, h2⟩, ⟨setD_ok h1 h2, ⟨by omega, by omega⟩, h3⟩, ⟨0, ⟨rfl, fun _ => rfl, fun _ => rfl, fun _ => ⟨rfl, rfl, rfl, rfl⟩⟩, rfl⟩, fun k hk => ⟨fun hlt => ?_, fun hge => by omega⟩, fun k hk => ⟨fun hlt => ?_, fun hge => ⟨by omega, Nat.le_refl _⟩⟩⟩
  · subst hk
    refine ⟨⟨rfl, by decide, by decide, by decide, by decide, by decide⟩, 1, ⟨rfl, rfl, rfl, fun i hi => ?_⟩, by omega, by omega⟩
    have : i = 0 := by omega
    subst this; exact hgd 0 (by omega)
  · refine ⟨⟨rfl, by decide, by decide, by omega, by omega⟩, k + 1, ⟨rfl, (wsucc (by omega)).symm, rfl, fun i hi => ?_⟩, by omega, by omega⟩
    by_cases hi2 : i < k
    · simp [hi2]
    · have : i = k := by omega
      subst this
      simp only [hi2, decide_false, cond_false]
      exact hgd i (by omega)
theorem p21b (N : NetL) (h1 : checkL N ≠ 0) : V21b N := by
  rw [vc21b]; simp only [condP, eq_self, implies_true, and_self, true_and, and_true, true_implies, forall_const, decide_eq_true_eq, decide_eq_false_iff_not, Int.toNat_natCast, dSpan_eSpan, dReach_eReach, dWay_eWay, dStep_eStep, dFar_eFar, dInt_eInt, Nat.zero_add, Int.zero_sub, Nat.le_eq, Nat.succ_eq_add_one, Nat.add_one_le_iff, Bool.not_eq_true', Bool.not_eq_false', rng_length, dSpan_mk, dReach_mk, dWay_mk, dStep_mk, dFar_mk, rng_getD, DL.d6, DL.d7, DL.d8]
  exact ⟨h1, by simp [h1]⟩
theorem ok19 : SpecOk Try.prog 19 (C19.spec d67) := okC C19 (fun _ => A19) [] [] Try.func19 (fun _ => by kernel_rfl) (fun _ => gok_cons ok55 gok_nil) (fun N h => p19 N h.1 h.2) (fun _ => noI rfl rfl) _
theorem ok19b : SpecOk Try.prog 19 (C19b.spec d67) := okC C19b (fun _ => A19b) [] [] Try.func19 (fun _ => by kernel_rfl) (fun _ => gok_cons ok55b gok_nil) (fun N h => p19b N h) (fun _ => noI rfl rfl) _
theorem ok20 : SpecOk Try.prog 20 (C20.spec d67) := okC C20 (fun _ => A20) [] [5016, 5017] Try.func20 (fun _ => by kernel_rfl) (fun _ => gok_cons ok55 (gok_cons ok56 gok_nil)) (fun N h => p20 N h.1 h.2) (fun _ => noI rfl rfl) _
theorem ok73 : SpecOk Try.prog 73 (C73.spec d67) := okC C73 (fun _ => A73) [(0, 2016), (1, 2017)] [] Try.func73 (fun _ => by kernel_rfl) (fun _ => gok_cons ok55 gok_nil) (fun N h => p73 N h.1 h.2.1 h.2.2) (fun _ => noI rfl rfl) _
theorem ok21 : SpecOk Try.prog 21 (C21.spec d67) := okC C21 A21 [] [202] Try.func21 (fun _ => by kernel_rfl) (fun _ => gok_cons ok55 (gok_cons ok57l gok_nil)) (fun N h => p21 N h.1 h.2.1 h.2.2) (fun _ => noI rfl rfl) _
end Go.Bal
