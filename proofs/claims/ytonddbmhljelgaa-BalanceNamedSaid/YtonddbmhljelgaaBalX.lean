/- awake: the examples of the chapter. -/
import Derived.Test.YtonddbmhljelgaaBalW
set_option linter.unusedVariables false
set_option linter.unusedSimpArgs false
namespace Go.Bal
open Go Go.Sym Go.Proofs
def A14 := ann 108 [(49, C49.spec d49), (34, C34.spec d67), (20, C20.spec d67), (24, C24.spec d24), (21, C21.spec d67), (25, C25.spec d67), (35, C35.spec d35), (50, s50), (37, C37.spec d37), (27, C27.spec d27)]
def V14 (n : Nat) : Prop := fnVC Try.prog A14 Try.f14 (bodyOf Try.f14) [] (heapOf []) (.bool true) [] [] []
abbrev z14_0 : Prop := Int.ofNat (105 : Nat) = Int.ofNat (105 : Nat)
abbrev z14_1 : Prop := Int.ofNat (130 : Nat) = Int.ofNat (130 : Nat)
abbrev z14_2 : Prop := (3 : Nat) = (3 : Nat)
abbrev z14_3 : NetL := threeN (105 : Int) (130 : Int)
abbrev z14_4 : List Span := z14_3.g
abbrev z14_5 (i : Nat) : Span := gD z14_4 i
abbrev z14_6 : List Span := rng z14_4.length fun (i : Nat) => z14_5 i
abbrev z14_7 (i : Nat) : Span := gD z14_6 i
abbrev z14_8 : Prop := ∀ (i : Nat), i < (3 : Nat) → (z14_7 i).lo = (z14_5 i).lo ∧ (z14_7 i).hi = (z14_5 i).hi
abbrev z14_9 : Prop := (2 : Nat) = (2 : Nat)
abbrev z14_10 : List Reach := z14_3.r
abbrev z14_11 (i : Nat) : Reach := gD z14_10 i
abbrev z14_12 : List Reach := rng z14_10.length fun (i : Nat) => z14_11 i
abbrev z14_13 (i : Nat) : Reach := gD z14_12 i
abbrev z14_14 (i : Nat) : Span := (z14_13 i).sp
abbrev z14_15 (i : Nat) : Span := (z14_11 i).sp
abbrev z14_16 : Prop := ∀ (i : Nat), i < (2 : Nat) → (z14_13 i).fr = (z14_11 i).fr ∧ (z14_13 i).to = (z14_11 i).to ∧ (z14_14 i).lo = (z14_15 i).lo ∧ (z14_14 i).hi = (z14_15 i).hi
abbrev z14_17 : Prop := Int.ofNat (0 : Nat) = Int.ofNat (0 : Nat)
abbrev z14_18 : Prop := ¬(0 : Int) < setC (NetL.mk (rng (3 : Nat) fun (i : Nat) => z14_5 i) (rng (2 : Nat) fun (i : Nat) => z14_11 i))
abbrev z14_19 : NetL := NetL.mk z14_6 z14_12
abbrev z14_20 : Prop := Int.ofNat (140 : Nat) = Int.ofNat (140 : Nat)
abbrev z14_21 : Prop := Int.ofNat (150 : Nat) = Int.ofNat (150 : Nat)
abbrev z14_22 : NetL := threeN (140 : Int) (150 : Int)
abbrev z14_23 : List Span := z14_22.g
abbrev z14_24 (i : Nat) : Span := gD z14_23 i
abbrev z14_25 : List Span := rng z14_23.length fun (i : Nat) => z14_24 i
abbrev z14_26 (i : Nat) : Span := gD z14_25 i
abbrev z14_27 : Prop := ∀ (i : Nat), i < (3 : Nat) → (z14_26 i).lo = (z14_24 i).lo ∧ (z14_26 i).hi = (z14_24 i).hi
abbrev z14_28 : List Reach := z14_22.r
abbrev z14_29 (i : Nat) : Reach := gD z14_28 i
abbrev z14_30 : List Reach := rng z14_28.length fun (i : Nat) => z14_29 i
abbrev z14_31 (i : Nat) : Reach := gD z14_30 i
abbrev z14_32 (i : Nat) : Span := (z14_31 i).sp
abbrev z14_33 (i : Nat) : Span := (z14_29 i).sp
abbrev z14_34 : Prop := ∀ (i : Nat), i < (2 : Nat) → (z14_31 i).fr = (z14_29 i).fr ∧ (z14_31 i).to = (z14_29 i).to ∧ (z14_32 i).lo = (z14_33 i).lo ∧ (z14_32 i).hi = (z14_33 i).hi
abbrev z14_35 (i : Nat) : Bool := decide (i = (0 : Nat))
abbrev z14_36 (i : Nat) : Bool := decide (i - (1 : Nat) = (0 : Nat))
abbrev z14_37 : List Int := rng (3 : Nat) fun (i : Nat) => bif z14_35 i then (0 : Int) else bif z14_36 i then (-1 : Int) else (0 : Int)
abbrev z14_38 (j : Nat) : Nat := (0 : Nat) + j
abbrev z14_39 (j : Nat) : Bool := decide (z14_38 j = (0 : Nat))
abbrev z14_40 : NetL := NetL.mk z14_25 z14_30
abbrev z14_41 : List Span := spF z14_19
abbrev z14_42 (i : Nat) : Span := gD z14_41 i
abbrev z14_43 (i : Nat) : Span := gD (rng z14_41.length fun (i : Nat) => z14_42 i) i
abbrev z14_44 (i : Nat) : Int := bif z14_35 i then (100 : Int) else (105 : Int)
abbrev z14_45 (i : Nat) : Int := bif z14_35 i then (115 : Int) else (125 : Int)
abbrev z14_46 : List Span := rng (2 : Nat) fun (i : Nat) => Span.mk (z14_44 i) (z14_45 i)
abbrev z14_47 (i : Nat) : Span := gD z14_46 i
abbrev z14_48 : List Span := spG z14_19
abbrev z14_49 (i : Nat) : Span := gD z14_48 i
abbrev z14_50 (i : Nat) : Span := gD (rng z14_48.length fun (i : Nat) => z14_49 i) i
abbrev z14_51 (i : Nat) : Int := bif z14_35 i then (100 : Int) else bif z14_36 i then (0 : Int) else (-125 : Int)
abbrev z14_52 (i : Nat) : Int := bif z14_35 i then (115 : Int) else bif z14_36 i then (10 : Int) else (-105 : Int)
abbrev z14_53 : List Span := rng (3 : Nat) fun (i : Nat) => Span.mk (z14_51 i) (z14_52 i)
abbrev z14_54 (i : Nat) : Span := gD z14_53 i
abbrev z14_55 : Prop := (1 : Nat) = (1 : Nat)
abbrev z14_56 : List Int := suspK z14_40 z14_30.length
abbrev z14_57 (i : Nat) : Int := gD z14_56 i
abbrev z14_58 : List Int := rng (1 : Nat) fun (i : Nat) => (1 : Int)
theorem vc14 (n : Nat) : (V14 n) = ((z14_0 ∧ z14_1 ∧ z14_2 ∧ z14_8 ∧ z14_9 ∧ z14_16 ∧ z14_17 ∧ true = true ∧ z14_18 ∧ ∀ (i : Nat), i < (5 : Nat) → (spanV (setD z14_19) (↑i : Int)).isSome = true) ∧ (z14_20 ∧ z14_21 ∧
 z14_2 ∧ z14_27 ∧ z14_9 ∧ z14_34 ∧ z14_17 ∧ true = true) ∧ (z14_20 ∧ z14_21 ∧ z14_2 ∧ z14_27 ∧ z14_9 ∧ z14_34 ∧ Int.ofNat (15 : Nat) = Int.ofNat (15 : Nat) ∧ z14_2 ∧ (3 : Nat) ≤ (3 : Nat) ∧ (∀ (j : Nat), j < (3 : Nat) →
 gD z14_37 j = bif z14_39 j then (0 : Int) else bif decide (z14_38 j - (1 : Nat) = (0 : Nat)) then (-1 : Int) else (0 : Int)) ∧ z14_37.length.succ.le (4611686018427387904 : Nat)) ∧ (z14_20 ∧ z14_21 ∧ z14_2 ∧ z14_27 ∧
 z14_9 ∧ z14_34 ∧ z14_17 ∧ true = true ∧ true = true) ∧ (z14_20 ∧ z14_21 ∧ z14_2 ∧ z14_27 ∧ z14_9 ∧ z14_34 ∧ z14_17 ∧ true = true ∧ setC (NetL.mk (rng (3 : Nat) fun (i : Nat) => z14_24 i) (rng (2 : Nat) fun (i : Nat) =>
 z14_29 i)) ≠ (0 : Int) ∧ ∀ (i : Nat), i < (2 : Nat) → (settleV (suspD z14_40 i)).isSome = true) ∧ (z14_0 ∧ z14_1 ∧ z14_2 ∧ z14_8 ∧ z14_9 ∧ z14_16 ∧ z14_9 ∧ (2 : Nat) ≤ (2 : Nat) ∧ (∀ (j : Nat), j < (2 : Nat) → gD (rng (2
 : Nat) fun (i : Nat) => bif z14_35 i then (0 : Int) else (1 : Int)) j = bif z14_39 j then (0 : Int) else (1 : Int)) ∧ z14_17 ∧ true = true ∧ z14_18 ∧ false = false ∧ ((0 : Nat) < (2 : Nat) ∧ (2 : Nat) ≤ (1000000 : Nat))
 ∧ true = true) ∧ ((true = true → z14_9 ∧ (∀ (i : Nat), i < (2 : Nat) → (z14_43 i).lo = (z14_42 i).lo ∧ (z14_43 i).hi = (z14_42 i).hi) ∧ z14_9 ∧ (∀ (i : Nat), i < (2 : Nat) → (z14_47 i).lo = z14_44 i ∧ (z14_47 i).hi =
 z14_45 i) ∧ (2 : Nat) < (4611686018427387904 : Nat) ∧ z14_46.length.succ.le (4611686018427387904 : Nat)) ∧ (true = true → z14_2 ∧ (∀ (i : Nat), i < (3 : Nat) → (z14_50 i).lo = (z14_49 i).lo ∧ (z14_50 i).hi = (z14_49
 i).hi) ∧ z14_2 ∧ (∀ (i : Nat), i < (3 : Nat) → (z14_54 i).lo = z14_51 i ∧ (z14_54 i).hi = z14_52 i) ∧ (3 : Nat) < (4611686018427387904 : Nat) ∧ z14_53.length.succ.le (4611686018427387904 : Nat)) ∧ (true = true → z14_55 ∧
 (∀ (i : Nat), i < (1 : Nat) → gD (rng z14_56.length fun (i : Nat) => z14_57 i) i = z14_57 i) ∧ z14_55 ∧ (∀ (i : Nat), i < (1 : Nat) → gD z14_58 i = (1 : Int)) ∧ (1 : Nat) < (4611686018427387904 : Nat) ∧
 z14_58.length.succ.le (4611686018427387904 : Nat))) ∧ true = true) := by kernel_rfl
def f14 : List AVal → Option (AVal × List Prop)
  | [] => some (.bool true, [])
  | _ => none
def s14 : Sym.Spec := pureSpec f14
theorem p14 : V14 0 := by
  rw [vc14]; delta z14_0 z14_1 z14_2 z14_3 z14_4 z14_5 z14_6 z14_7 z14_8 z14_9 z14_10 z14_11 z14_12 z14_13 z14_14 z14_15 z14_16 z14_17 z14_18 z14_19 z14_20 z14_21 z14_22 z14_23 z14_24 z14_25 z14_26 z14_27 z14_28 z14_29 z14_30 z14_31 z14_32 z14_33 z14_34 z14_35 z14_36 z14_37 z14_38 z14_39 z14_40 z14_41 z14_42 z14_43 z14_44 z14_45 z14_46 z14_47 z14_48 z14_49 z14_50 z14_51 z14_52 z14_53 z14_54 z14_55 z14_56 z14_57 z14_58; simp only [condP, eq_self, implies_true, and_self, true_and, and_true, true_implies, forall_const, decide_eq_true_eq, decide_eq_false_iff_not, Int.toNat_natCast, dSpan_eSpan, dReach_eReach, dWay_eWay, dStep_eStep, dFar_eFar, dInt_eInt, Nat.zero_add, Int.zero_sub, Nat.le_eq, Nat.succ_eq_add_one, Nat.add_one_le_iff, Bool.not_eq_true', Bool.not_eq_false', rng_length, dSpan_mk, dReach_mk, dWay_mk, dStep_mk, dFar_mk, rng_getD]
  decide +kernel
theorem ok14 : SpecOk Try.prog 14 s14 := pureSpec_ok fun xs v p h _ => by
  unfold f14 at h; split at h
  · cases h; exact fnt (A := A14) (ren := []) (fz := []) Try.func14 (by kernel_rfl) (gok_cons ok49 (gok_cons ok34 (gok_cons ok20 (gok_cons ok24 (gok_cons ok21 (gok_cons ok25 (gok_cons ok35 (gok_cons ok50 (gok_cons ok37 (gok_cons ok27 gok_nil)))))))))) p14
  · cases h
end Go.Bal
