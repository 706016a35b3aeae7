/- The reference: Least, fits. -/
import Derived.Test.YtonddbmhljelgaaBalLv2
set_option linter.unusedVariables false
set_option linter.unusedSimpArgs false
namespace Go.Bal
open Go Go.Sym Go.Proofs
def lvA0 (N : NetL) : LvA := ⟨N, noneL N, 0⟩
def allL (N : NetL) : List (List Int) := lvAll (lvA0 N) N.g.length
def pvL (N : NetL) (k : Nat) (skip : Int) : Int := pvG ⟨N, gD (allL N) k, noneL N, 0, skip⟩ N.g.length
def bsM (N : NetL) : Nat → Int
  | 0 => 0
  | k + 1 => bif decide (pvL N k (-1) > bsM N k) then pvL N k (-1) else bsM N k
def leastM (N : NetL) : Int := if checkL N = 0 then bsM N (allL N).length else 0
def A18 (N : NetL) : Ann := { ann 40 [(45, C45.spec d67), (53, C53.spec d53), (54, C54.spec d54)] with cutIn := fun gs id => if id = 5 then some [{ α := One, dflt := default, T := fun _ => ⟨[(1, .bptr 203 0), (5, .d (eBoolsL (noneL N)))], [(203, begO N)]⟩, inv := fun _ => checkL N = 0, meas := fun _ => 0, first := [(203, 1000)], ffz := [5048] }] else none, loops := fun id => if id = 8 then some [{ α := Nat, dflt := 0, T := fun k => ⟨[(1, .bptr 203 0), (5, .d (eBoolsL (noneL N))), (6, .d (eLL (allL N))), (7, .int (bsM N k)), (8, .int k)], [(203, begO N)]⟩, inv := fun k => checkL N = 0 ∧ k ≤ (allL N).length, meas := fun k => (allL N).length - k }] else none }
def C18 : Ctr := { α := NetL, xs := xsN, val := fun N => .tup [.int (leastM N), .int (checkL N)], pre := fun N => [N.g.length ≤ 1000000 ∧ N.r.length ≤ 1000000] }
def V18 (N : NetL) : Prop := fnVC Try.prog (A18 N) Try.f18 (bodyOf Try.f18) (C18.xs N) (heapOf []) (C18.val N) (C18.keep N) [] []
abbrev z18_0 (N : NetL) : List Span := rng N.g.length fun (i : Nat) => gD N.g i
abbrev z18_1 (N : NetL) : Nat := (z18_0 N).length
abbrev z18_2 (N : NetL) : Prop := z18_1 N = N.g.length
abbrev z18_3 (N : NetL) (i : Nat) : Span := gD (z18_0 N) i
abbrev z18_4 (N : NetL) : Prop := ∀ (i : Nat), i < z18_1 N → (z18_3 N i).lo = (gD N.g i).lo ∧ (z18_3 N i).hi = (gD N.g i).hi
abbrev z18_5 (N : NetL) : List Reach := rng N.r.length fun (i : Nat) => gD N.r i
abbrev z18_6 (N : NetL) : Nat := (z18_5 N).length
abbrev z18_7 (N : NetL) : Prop := z18_6 N = N.r.length
abbrev z18_8 (N : NetL) (i : Nat) : Reach := gD (z18_5 N) i
abbrev z18_9 (N : NetL) (i : Nat) : Span := (z18_8 N i).sp
abbrev z18_10 (N : NetL) : Prop := ∀ (i : Nat), i < z18_6 N → (z18_8 N i).fr = (gD N.r i).fr ∧ (z18_8 N i).to = (gD N.r i).to ∧ (z18_9 N i).lo = (gD N.r i).sp.lo ∧ (z18_9 N i).hi = (gD N.r i).sp.hi
abbrev z18_11 (N : NetL) : NetL := NetL.mk (z18_0 N) (z18_5 N)
abbrev z18_12 (N : NetL) : Int := checkL (z18_11 N)
abbrev z18_13 (N : NetL) : Prop := N.g.length = N.g.length ∧ (∀ (i : Nat), i < N.g.length → (gD N.g i).lo = (gD N.g i).lo ∧ (gD N.g i).hi = (gD N.g i).hi) ∧ N.r.length = N.r.length ∧ ∀ (i : Nat), i < N.r.length → (gD N.r
 i).fr = (gD N.r i).fr ∧ (gD N.r i).to = (gD N.r i).to ∧ (gD N.r i).sp.lo = (gD N.r i).sp.lo ∧ (gD N.r i).sp.hi = (gD N.r i).sp.hi
abbrev z18_14 (N : NetL) : List Bool := rng (noneL N).length fun (i : Nat) => gD (noneL N) i
abbrev z18_15 (N : NetL) : Nat := (z18_14 N).length
abbrev z18_16 (N : NetL) : Prop := z18_15 N = (noneL N).length
abbrev z18_17 (N : NetL) : Prop := ∀ (i : Nat), i < z18_15 N → gD (z18_14 N) i = gD (noneL N) i
abbrev z18_18 : Prop := (0 : Int) = Int.ofNat (0 : Nat)
abbrev z18_19 (N : NetL) : Prop := z18_12 N = (0 : Int)
abbrev z18_20 (N : NetL) : Prop := z18_15 N = z18_1 N
abbrev z18_21 (N : NetL) : Prop := (noneL N).length = (noneL N).length
abbrev z18_22 (N : NetL) : Prop := ∀ (i : Nat), i < (noneL N).length → gD (noneL N) i = gD (noneL N) i
abbrev z18_23 (N : NetL) : List (List Int) := lvAll (LvA.mk (z18_11 N) (z18_14 N) (0 : Int)) (z18_1 N)
abbrev z18_24 (N : NetL) (i : Nat) : Nat := (gD (allL N) i).length
abbrev z18_25 (N : NetL) (i : Nat) : List Int := gD (z18_23 N) i
abbrev z18_26 (i : Nat) (N : NetL) (i1 : Nat) : Prop := i < z18_24 N i1
abbrev z18_27 (N : NetL) (i : Nat) (i1 : Nat) : Int := gD (gD (allL N) i) i1
abbrev z18_28 (N : NetL) (a : Nat) : Prop := checkL N = (0 : Int) ∧ a ≤ (allL N).length
abbrev z18_29 (a : Nat) (N : NetL) : Prop := (↑a : Int) < (↑(allL N).length : Int)
abbrev z18_30 (N : NetL) (a : Nat) : List Int := rng (z18_24 N a) fun (i : Nat) => z18_27 N a i
abbrev z18_31 (N : NetL) (a : Nat) : Nat := (z18_30 N a).length
abbrev z18_32 (N : NetL) (a : Nat) : Int := pvG (PvA.mk (z18_11 N) (z18_30 N a) (z18_14 N) (0 : Int) (-1 : Int)) (z18_1 N)
abbrev z18_33 (N : NetL) : Prop := (allL N).length = (allL N).length
abbrev z18_34 (N : NetL) : Prop := ∀ (i : Nat), i < (allL N).length → z18_24 N i = z18_24 N i ∧ ∀ (i_1 : Nat), z18_26 i_1 N i → z18_27 N i i_1 = z18_27 N i i_1
abbrev z18_35 (a : Nat) (a1 : Nat) (N : NetL) : Prop := (↑a : Int) = IntKind.i64.wrap ((↑a1 : Int) + (1 : Int)) ∧ z18_13 N
abbrev z18_36 (N : NetL) (a : Nat) : Nat := (allL N).length - a
abbrev z18_37 (N : NetL) (a : Nat) (a1 : Nat) : Prop := z18_28 N a ∧ z18_36 N a < z18_36 N a1
theorem vc18 (N : NetL) : (V18 N) = ((z18_2 N ∧ z18_4 N ∧ z18_7 N ∧ z18_10 N ∧ z18_1 N ≤ (1000000 : Nat) ∧ z18_6 N ≤ (1000000 : Nat)) ∧ bif z18_12 N != (0 : Int) then leastM N = (0 : Int) ∧ checkL N = z18_12 N else (((0
 : Int) ≤ (↑N.g.length : Int) ∧ (↑N.g.length : Int) = (↑N.g.length : Int) ∧ (↑N.g.length : Int) ≤ (9223372036854775807 : Int) ∧ (↑(1 : Nat) : Int) * (↑N.g.length : Int) ≤ (281474976710656 : Int)) ∧ ∃ (a : One), ((noneL
 N).length = N.g.length ∧ (0 : Nat) + N.g.length ≤ N.g.length ∧ (∀ (j : Nat), j < (noneL N).length → gD (noneL N) j = false) ∧ z18_13 N) ∧ checkL N = (0 : Int)) ∧ ∀ (a : One), checkL N = (0 : Int) → (z18_2 N ∧ z18_4 N ∧
 z18_7 N ∧ z18_10 N ∧ z18_16 N ∧ z18_17 N ∧ z18_18 ∧ z18_19 N ∧ z18_20 N ∧ (-1 : Int) ≤ (0 : Int) ∧ (0 : Int) ≤ (1 : Int)) ∧ (∃ (a : Nat), (z18_21 N ∧ z18_22 N ∧ (allL N).length = (z18_23 N).length ∧ (∀ (i : Nat), i <
 (allL N).length → z18_24 N i = (z18_25 N i).length ∧ ∀ (i_1 : Nat), z18_26 i_1 N i → z18_27 N i i_1 = gD (z18_25 N i) i_1) ∧ bsM N a = (0 : Int) ∧ (↑a : Int) = (0 : Int) ∧ z18_13 N) ∧ z18_28 N a) ∧ ∀ (a : Nat), z18_28 N
 a → bif decide (z18_29 a N) then (((0 : Int) ≤ (↑a : Int) ∧ z18_29 a N) ∧ z18_2 N ∧ z18_4 N ∧ z18_7 N ∧ z18_10 N ∧ z18_31 N a = z18_24 N a ∧ (∀ (i : Nat), i < z18_31 N a → gD (z18_30 N a) i = z18_27 N a i) ∧ z18_16 N ∧
 z18_17 N ∧ z18_18 ∧ (-1 : Int) = Int.negSucc (0 : Nat) ∧ z18_19 N ∧ z18_31 N a = z18_1 N ∧ z18_20 N) ∧ bif decide (z18_32 N a > bsM N a) then ∃ (a_2 : Nat), (z18_21 N ∧ z18_22 N ∧ z18_33 N ∧ z18_34 N ∧ bsM N a_2 = z18_32
 N a ∧ z18_35 a_2 a N) ∧ z18_37 N a_2 a else ∃ (a_2 : Nat), (z18_21 N ∧ z18_22 N ∧ z18_33 N ∧ z18_34 N ∧ bsM N a_2 = bsM N a ∧ z18_35 a_2 a N) ∧ z18_37 N a_2 a else leastM N = bsM N a ∧ checkL N = (0 : Int)) := by
 kernel_rfl
theorem p18 (N : NetL) (h1 : N.g.length ≤ 1000000 ∧ N.r.length ≤ 1000000) : V18 N := by
  rw [vc18]; delta z18_0 z18_1 z18_2 z18_3 z18_4 z18_5 z18_6 z18_7 z18_8 z18_9 z18_10 z18_11 z18_12 z18_13 z18_14 z18_15 z18_16 z18_17 z18_18 z18_19 z18_20 z18_21 z18_22 z18_23 z18_24 z18_25 z18_26 z18_27 z18_28 z18_29 z18_30 z18_31 z18_32 z18_33 z18_34 z18_35 z18_36 z18_37; simp only [condP, eq_self, implies_true, and_self, true_and, and_true, true_implies, forall_const, decide_eq_true_eq, decide_eq_false_iff_not, Int.toNat_natCast, dSpan_eSpan, dReach_eReach, dWay_eWay, dStep_eStep, dFar_eFar, dInt_eInt, Nat.zero_add, Int.zero_sub, Nat.le_eq, Nat.succ_eq_add_one, Nat.add_one_le_iff, Bool.not_eq_true', Bool.not_eq_false', rng_length, dSpan_mk, dReach_mk, dWay_mk, dStep_mk, dFar_mk, rng_getD]
  have et : NetL.mk N.g N.r = N := rfl
  have nl : (noneL N).length = N.g.length := by simp [noneL]
  have ea : lvAll (LvA.mk N (noneL N) 0) N.g.length = allL N := rfl
  simp only [et, ea]
  refine ⟨h1, fun hc => ?_, fun hc => ?_⟩
  · have hc : checkL N ≠ 0 := by simpa using hc
    exact if_neg hc
  · have hc : checkL N = 0 := by simpa using hc
    have hg8 := (good_of hc).g8
    refine ⟨⟨⟨by omega, by omega, by omega⟩, ⟨0⟩, ⟨nl, Nat.le_refl _, fun j hj => ?_⟩, hc⟩, fun _ => ⟨⟨rfl, hc, nl, by decide, by decide⟩, ⟨0, ⟨trivial, fun _ _ => ⟨trivial, fun _ _ => trivial⟩, rfl, rfl⟩, hc, Nat.zero_le _⟩, fun k ⟨_, hk⟩ => ?_⟩⟩
    · rw [nl] at hj; simp [noneL, gD_replicate, hj]
    · have hb : (allL N).length ≤ 6561 := lvAll_bd (lvA0 N) hg8
      refine ⟨fun hlt => ⟨⟨⟨by omega, hlt⟩, rfl, rfl, hc, lv_len (lvA0 N) (s := N.g.length) (k := k) (by show k < (allL N).length; omega), nl⟩, fun hgt => ⟨k + 1, ⟨?_, (wsucc (by omega)).symm⟩, ⟨hc, by omega⟩, by omega⟩, fun hgt => ⟨k + 1, ⟨?_, (wsucc (by omega)).symm⟩, ⟨hc, by omega⟩, by omega⟩⟩, fun hge => ⟨?_, hc⟩⟩
      · have hgt : pvL N k (-1) > bsM N k := hgt
        simp only [bsM, decide_eq_true hgt, cond_true]; rfl
      · have hgt : ¬ pvL N k (-1) > bsM N k := hgt
        simp only [bsM, decide_eq_false hgt, cond_false]
      · have : k = (allL N).length := by omega
        rw [this]; exact if_pos hc
theorem ok18 : SpecOk Try.prog 18 (C18.spec dN) := okC C18 A18 [] [] Try.func18 (fun _ => by kernel_rfl) (fun _ => gok_cons ok45 (gok_cons ok53 (gok_cons ok54 gok_nil))) (fun a h => p18 a h) (fun _ => noI rfl rfl) _
end Go.Bal
