/- Package rating: awake. -/
import Derived.Test.YtoihhodbkimedaaRatW
set_option linter.unusedVariables false
set_option linter.unusedSimpArgs false
namespace Go.Bal
open Go Go.Sym Go.Proofs
def A_awake : Ann := { ann 178 [(n_Three, s_Three), (n_Rate, C_Rate.spec dGs1), (n_Knots, C_Knots.spec dGs1), (n_Knot, C_Knot.spec dGK), (n_Flow, C_Flow.spec dGBt), (n_Stages, C_Stages.spec dGBf), (n_Dry, C_Dry.spec dGB), (n_fraction, s_frac)] with md := λ id => if id = 4 then some (λ k => if k = 1 then 4 else 0) else if id = 5 then some (λ k => if k = 4 then 4 else if k = 5 then 4 else 0) else none }
def V_awake (n : Nat) : Prop := fnVC Try.prog A_awake F_awake (bodyOf F_awake) [] (heapOf []) (.bool true) [] [] []
abbrev z_awake_0 : Prop := (3 : Nat) = (3 : Nat)
abbrev z_awake_1 : List Gau := threeM (50 : Int) (52 : Int)
abbrev z_awake_2 (i : Nat) : Gau := gD z_awake_1 i
abbrev z_awake_3 (i : Nat) : Gau := gD (rng z_awake_1.length λ (i : Nat) => z_awake_2 i) i
abbrev z_awake_4 : Prop := ∀ (i : Nat), i < (3 : Nat) -> (z_awake_3 i).st = (z_awake_2 i).st /\ (z_awake_3 i).lo = (z_awake_2 i).lo /\ (z_awake_3 i).hi = (z_awake_2 i).hi
abbrev z_awake_5 : Prop := (3 : Nat) < (20 : Nat) /\ True
abbrev z_awake_6 : List Gau := threeM (60 : Int) (62 : Int)
abbrev z_awake_7 (i : Nat) : Gau := gD z_awake_6 i
abbrev z_awake_8 (i : Nat) : Gau := gD (rng z_awake_6.length λ (i : Nat) => z_awake_7 i) i
abbrev z_awake_9 : Prop := ∀ (i : Nat), i < (3 : Nat) -> (z_awake_8 i).st = (z_awake_7 i).st /\ (z_awake_8 i).lo = (z_awake_7 i).lo /\ (z_awake_8 i).hi = (z_awake_7 i).hi
abbrev z_awake_10 : Prop := z_awake_0 /\ z_awake_9 /\ z_awake_5
abbrev z_awake_11 (i : Nat) : Bool := decide (i = (0 : Nat))
abbrev z_awake_12 (i : Nat) : Int := bif z_awake_11 i then (0 : Int) else bif decide (i - (1 : Nat) = (0 : Nat)) then (1 : Int) else (2 : Int)
abbrev z_awake_13 : Prop := (3 : Nat) < (1073741824 : Nat)
abbrev z_awake_14 : Prop := (2 : Nat) = (2 : Nat)
abbrev z_awake_15 (i : Nat) : Int := bif z_awake_11 i then (100 : Int) else (200 : Int)
abbrev z_awake_16 (i : Nat) : Int := bif z_awake_11 i then (10 : Int) else (5 : Int)
abbrev z_awake_17 (i : Nat) : Int := bif z_awake_11 i then (12 : Int) else (8 : Int)
abbrev z_awake_18 (i : Nat) : Gau := gD (rng (2 : Nat) λ (i : Nat) => Gau.mk (z_awake_15 i) (z_awake_16 i) (z_awake_17 i)) i
abbrev z_awake_19 (i : Nat) : Int := bif z_awake_11 i then (0 : Int) else (1 : Int)
abbrev z_awake_20 : Prop := (2 : Nat) < (1073741824 : Nat)
abbrev z_awake_21 : Prop := (0 : Nat) = (0 : Nat)
abbrev z_awake_22 : Prop := ((3 : Nat) < (4611686018427387904 : Nat) /\ (0 : Nat) < (4611686018427387904 : Nat)) /\ True
theorem vc_awake (n : Nat) : (V_awake n) = ((z_awake_0 /\ z_awake_4 /\ z_awake_5) /\ z_awake_10 /\ (z_awake_0 /\ z_awake_9 /\ z_awake_0 /\ (∀ (i : Nat), i < (3 : Nat) -> gD (rng (3 : Nat) λ (i : Nat) => z_awake_12 i) i =
 z_awake_12 i) /\ z_awake_13 /\ z_awake_13) /\ (z_awake_14 /\ (∀ (i : Nat), i < (2 : Nat) -> (z_awake_18 i).st = z_awake_15 i /\ (z_awake_18 i).lo = z_awake_16 i /\ (z_awake_18 i).hi = z_awake_17 i) /\ z_awake_14 /\ (∀ (i : Nat),
 i < (2 : Nat) -> gD (rng (2 : Nat) λ (i : Nat) => z_awake_19 i) i = z_awake_19 i) /\ z_awake_20 /\ z_awake_20) /\ z_awake_10 /\ (z_awake_0 /\ z_awake_4 /\ z_awake_21 /\ z_awake_21 /\ Int.ofNat (400 : Nat) = Int.ofNat (400 :
 Nat) /\ z_awake_22) /\ (z_awake_0 /\ z_awake_4 /\ z_awake_21 /\ z_awake_21 /\ Int.ofNat (150 : Nat) = Int.ofNat (150 : Nat) /\ z_awake_22) /\ (z_awake_0 /\ z_awake_4 /\ z_awake_21 /\ z_awake_21 /\ Int.ofNat (50 : Nat) = Int.ofNat
 (50 : Nat) /\ z_awake_22) /\ (z_awake_0 /\ z_awake_4 /\ z_awake_21 /\ z_awake_21 /\ Int.ofNat (40 : Nat) = Int.ofNat (40 : Nat) /\ z_awake_22) /\ (z_awake_0 /\ z_awake_4 /\ z_awake_21 /\ z_awake_21 /\ z_awake_22) /\ true = true) :=
 by kernel_rfl
def f_awake : List AVal -> Option (AVal × List Prop)
 | [] => some (.bool true, [])
 | _ => none
def s_awake : Sym.Spec := pureSpec f_awake
theorem p_awake : V_awake 0 := by
 rw [vc_awake]; delta z_awake_0 z_awake_1 z_awake_2 z_awake_3 z_awake_4 z_awake_5 z_awake_6 z_awake_7 z_awake_8 z_awake_9 z_awake_10 z_awake_11 z_awake_12 z_awake_13 z_awake_14 z_awake_15 z_awake_16 z_awake_17 z_awake_18 z_awake_19 z_awake_20 z_awake_21 z_awake_22; simp only [condP, eq_self, implies_true, and_self, true_and, and_true, true_implies, forall_const, decide_eq_true_eq, decide_eq_false_iff_not, Int.toNat_natCast, dSpan_eSpan, dInt_eInt, dGau_e, dPt_e, dLn_e, dRt_e, Nat.zero_add, Int.zero_sub, Nat.le_eq, Nat.succ_eq_add_one, Nat.add_one_le_iff, Bool.not_eq_true', Bool.not_eq_false', rng_length, dSpan_mk, rng_getD]
 decide +kernel
theorem ok_awake : SpecOk Try.prog n_awake s_awake := pureSpec_ok λ xs v p h _ => by
 unfold f_awake at h; split at h
 ·cases h; exact fnt (A := A_awake) (ren := []) (fz := []) fn_awake (by kernel_rfl) (gok_cons ok_Three (gok_cons ok_Rate (gok_cons ok_Knots (gok_cons ok_Knot (gok_cons ok_Flow (gok_cons ok_Stages (gok_cons ok_Dry (gok_cons ok_frac gok_nil)))))))) p_awake
 ·cases h
end Go.Bal
