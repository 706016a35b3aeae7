/- BalanceTruths. -/
import Derived.Test.YtonddbmhljelgaaBalX
import Derived.Test.YtonddbmhljelgaaBalZ2
set_option linter.unusedSimpArgs false
set_option linter.unusedVariables false
namespace Go.Bal
open Go Go.Sym Go.Proofs

def A9 := ann 140 [(14, s14), (15, C15.spec d67), (16, C16.spec d16), (17, C17.spec d17), (44, s44), (45, C45.spec d67), (46, C47.spec d78), (47, C47.spec d78), (27, C27.spec d27), (48, C48.spec d48), (40, C48.spec d48), (42, C42.spec d42), (22, C42.spec d42), (28, C28.spec d28)]
def V9 (a : NT) : Prop := fnVC Try.prog A9 Try.f9 (bodyOf Try.f9) (xsNT a) (heapOf []) (.bool true) [] [] []
abbrev z9_0 (a : NT) : List Span := rng a.N.g.length fun (i : Nat) => gD a.N.g i
abbrev z9_1 (a : NT) : Nat := (z9_0 a).length
abbrev z9_2 (a : NT) : Prop := z9_1 a = a.N.g.length
abbrev z9_3 (i : Nat) (a : NT) : Prop := i < z9_1 a
abbrev z9_4 (a : NT) (i : Nat) : Span := gD (z9_0 a) i
abbrev z9_5 (a : NT) (i : Nat) : Int := (z9_4 a i).lo
abbrev z9_6 (a : NT) (i : Nat) : Int := (z9_4 a i).hi
abbrev z9_7 (a : NT) : Prop := ∀ (i : Nat), z9_3 i a → z9_5 a i = (gD a.N.g i).lo ∧ z9_6 a i = (gD a.N.g i).hi
abbrev z9_8 (a : NT) : List Reach := rng a.N.r.length fun (i : Nat) => gD a.N.r i
abbrev z9_9 (a : NT) : Nat := (z9_8 a).length
abbrev z9_10 (a : NT) : Prop := z9_9 a = a.N.r.length
abbrev z9_11 (i : Nat) (a : NT) : Prop := i < z9_9 a
abbrev z9_12 (a : NT) (i : Nat) : Reach := gD (z9_8 a) i
abbrev z9_13 (a : NT) (i : Nat) : Int := (z9_12 a i).fr
abbrev z9_14 (a : NT) (i : Nat) : Int := (z9_12 a i).to
abbrev z9_15 (a : NT) (i : Nat) : Span := (z9_12 a i).sp
abbrev z9_16 (a : NT) (i : Nat) : Int := (z9_15 a i).lo
abbrev z9_17 (a : NT) (i : Nat) : Int := (z9_15 a i).hi
abbrev z9_18 (a : NT) : Prop := ∀ (i : Nat), z9_11 i a → z9_13 a i = (gD a.N.r i).fr ∧ z9_14 a i = (gD a.N.r i).to ∧ z9_16 a i = (gD a.N.r i).sp.lo ∧ z9_17 a i = (gD a.N.r i).sp.hi
abbrev z9_19 (a : NT) : Prop := z9_1 a ≤ 1000000
abbrev z9_20 (a : NT) : Prop := z9_9 a ≤ 1000000
abbrev z9_21 (a : NT) : List Int := rng a.T.f.length fun (i : Nat) => gD a.T.f i
abbrev z9_22 (a : NT) : Nat := (z9_21 a).length
abbrev z9_23 (a : NT) : Prop := z9_22 a = a.T.f.length
abbrev z9_24 (a : NT) (i : Nat) : Int := gD (z9_21 a) i
abbrev z9_25 (a : NT) : Prop := ∀ (i : Nat), i < z9_22 a → z9_24 a i = gD a.T.f i
abbrev z9_26 (a : NT) : Prop := z9_22 a ≤ 1000000
abbrev z9_27 (a : NT) : List Int := rng a.T.t.length fun (i : Nat) => gD a.T.t i
abbrev z9_28 (a : NT) : Nat := (z9_27 a).length
abbrev z9_29 (a : NT) : Prop := z9_28 a = a.T.t.length
abbrev z9_30 (a : NT) (i : Nat) : Int := gD (z9_27 a) i
abbrev z9_31 (a : NT) : Prop := ∀ (i : Nat), i < z9_28 a → z9_30 a i = gD a.T.t i
abbrev z9_32 (a : NT) : List Span := rng (z9_1 a) fun (i : Nat) => z9_4 a i
abbrev z9_33 (a : NT) : Nat := (z9_32 a).length
abbrev z9_34 (a : NT) : Prop := z9_33 a = z9_1 a
abbrev z9_35 (a : NT) (i : Nat) : Span := gD (z9_32 a) i
abbrev z9_36 (a : NT) : Prop := ∀ (i : Nat), i < z9_33 a → (z9_35 a i).lo = z9_5 a i ∧ (z9_35 a i).hi = z9_6 a i
abbrev z9_37 (a : NT) : List Reach := rng (z9_9 a) fun (i : Nat) => z9_12 a i
abbrev z9_38 (a : NT) : Nat := (z9_37 a).length
abbrev z9_39 (a : NT) : Prop := z9_38 a = z9_9 a
abbrev z9_40 (a : NT) (i : Nat) : Reach := gD (z9_37 a) i
abbrev z9_41 (a : NT) (i : Nat) : Span := (z9_40 a i).sp
abbrev z9_42 (a : NT) : Prop := ∀ (i : Nat), i < z9_38 a → (z9_40 a i).fr = z9_13 a i ∧ (z9_40 a i).to = z9_14 a i ∧ (z9_41 a i).lo = z9_16 a i ∧ (z9_41 a i).hi = z9_17 a i
abbrev z9_43 (a : NT) : Prop := z9_33 a ≤ 1000000 ∧ z9_38 a ≤ 1000000
abbrev z9_44 (a : NT) : NetL := NetL.mk (z9_32 a) (z9_37 a)
abbrev z9_45 (a : NT) : List Int := rng (z9_22 a) fun (i : Nat) => z9_24 a i
abbrev z9_46 (a : NT) : Nat := (z9_45 a).length
abbrev z9_47 (a : NT) : Prop := z9_46 a = z9_22 a
abbrev z9_48 (a : NT) : Prop := ∀ (i : Nat), i < z9_46 a → gD (z9_45 a) i = z9_24 a i
abbrev z9_49 (a : NT) : List Int := rng (z9_28 a) fun (i : Nat) => z9_30 a i
abbrev z9_50 (a : NT) : Nat := (z9_49 a).length
abbrev z9_51 (a : NT) : Prop := z9_50 a = z9_28 a
abbrev z9_52 (a : NT) : Prop := ∀ (i : Nat), i < z9_50 a → gD (z9_49 a) i = z9_30 a i
abbrev z9_53 (a : NT) : Prop := z9_34 a ∧ z9_36 a ∧ z9_39 a ∧ z9_42 a ∧ z9_47 a ∧ z9_48 a ∧ z9_51 a ∧ z9_52 a ∧ z9_43 a ∧ z9_46 a ≤ 1000000 ∧ z9_50 a ≤ 1000000
abbrev z9_54 (a : NT) : Prop := z9_34 a ∧ z9_36 a ∧ z9_39 a ∧ z9_42 a ∧ z9_23 a ∧ z9_25 a ∧ z9_29 a ∧ z9_31 a ∧ z9_43 a ∧ z9_26 a ∧ z9_28 a ≤ 1000000
abbrev z9_55 (a : NT) : TruthL := TruthL.mk (z9_45 a) (z9_49 a)
abbrev z9_56 (a : NT) : TruthL := TruthL.mk (z9_21 a) (z9_27 a)
abbrev z9_57 (a : NT) : Bool := askM (z9_44 a) (z9_55 a) != askM (z9_44 a) (z9_56 a)
abbrev z9_58 (a : NT) : List Int := balL (z9_44 a) (z9_55 a)
abbrev z9_59 (a : NT) : Nat := (z9_58 a).length
abbrev z9_60 (a : NT) (i : Nat) : Int := gD (z9_58 a) i
abbrev z9_61 (a : NT) : List Int := rng (z9_59 a) fun (i : Nat) => z9_60 a i
abbrev z9_62 (a : NT) : Nat := (z9_61 a).length
abbrev z9_63 (a : NT) : List Int := balL (z9_44 a) (z9_56 a)
abbrev z9_64 (a : NT) : Nat := (z9_63 a).length
abbrev z9_65 (a : NT) (i : Nat) : Int := gD (z9_63 a) i
abbrev z9_66 (a : NT) : List Int := rng (z9_64 a) fun (i : Nat) => z9_65 a i
abbrev z9_67 (a : NT) : Nat := (z9_66 a).length
abbrev z9_68 (a : NT) : Bool := bif costE (z9_44 a) (z9_55 a) == costE (z9_44 a) (z9_56 a) then costV (z9_44 a) (z9_55 a) == costV (z9_44 a) (z9_56 a) else false
abbrev z9_69 (a : NT) : Bool := bif z9_68 a then decide (z9_44 a = NetL.mk (z9_0 a) (z9_8 a)) else false
abbrev z9_70 (a : NT) : Bool := bif z9_69 a then decide (z9_45 a = z9_21 a) else false
theorem vc9 (a : NT) : (V9 a) = (bif bif bif bif decide ((↑a.N.g.length : Int) > 10) then true else decide ((↑a.N.r.length : Int) > 17) then true else decide ((↑a.T.f.length : Int) > 20) then true else decide
 ((↑a.T.t.length : Int) > 20) then true = true else (z9_2 a ∧ z9_7 a ∧ z9_10 a ∧ z9_18 a ∧ z9_19 a ∧ z9_20 a ∧ z9_23 a ∧ z9_25 a ∧ z9_26 a ∧ z9_29 a ∧ z9_31 a ∧ (z9_28 a).le 1000000) ∧ (z9_2 a ∧ z9_7 a ∧ z9_10 a ∧ z9_18 a
 ∧ z9_19 a ∧ (z9_9 a).le 1000000) ∧ ((∀ (i : Nat), z9_3 i a → True) ∧ (∀ (i : Nat), z9_11 i a → True) ∧ z9_34 a ∧ z9_36 a ∧ z9_39 a ∧ z9_42 a ∧ z9_43 a) ∧ bif checkM (Net.mk (z9_1 a) (fun (i : Nat) => z9_4 a i) (z9_9 a)
 fun (i : Nat) => z9_12 a i) != checkL (z9_44 a) then true = false else z9_53 a ∧ z9_54 a ∧ ((!z9_57 a) = true → z9_62 a = z9_59 a ∧ (∀ (i : Nat), i < z9_62 a → gD (z9_61 a) i = z9_60 a i) ∧ z9_67 a = z9_64 a ∧ (∀ (i :
 Nat), i < z9_67 a → gD (z9_66 a) i = z9_65 a i) ∧ z9_62 a < 4611686018427387904 ∧ (z9_67 a).succ.le 4611686018427387904) ∧ bif bif z9_57 a then true else !decide (z9_61 a = z9_66 a) then true = false else z9_53 a ∧ z9_54
 a ∧ bif bif z9_57 a then true else !holdM (z9_44 a) (z9_55 a) == holdM (z9_44 a) (z9_56 a) then true = false else z9_53 a ∧ z9_54 a ∧ ((z9_68 a = true → z9_34 a ∧ z9_36 a ∧ z9_39 a ∧ z9_42 a ∧ z9_2 a ∧ z9_7 a ∧ z9_10 a ∧
 z9_18 a ∧ z9_43 a ∧ z9_19 a ∧ z9_20 a) ∧ (z9_69 a = true → z9_47 a ∧ z9_48 a ∧ z9_23 a ∧ z9_25 a ∧ z9_46 a < 4611686018427387904 ∧ (z9_22 a).succ.le 4611686018427387904) ∧ (z9_70 a = true → z9_51 a ∧ z9_52 a ∧ z9_29 a ∧
 z9_31 a ∧ z9_50 a < 4611686018427387904 ∧ (z9_28 a).succ.le 4611686018427387904)) ∧ true = bif bif z9_70 a then decide (z9_49 a = z9_27 a) else false then true else false) := by kernel_rfl
theorem p9 (a : NT) : V9 a := by
  rw [vc9]; delta z9_0 z9_1 z9_2 z9_3 z9_4 z9_5 z9_6 z9_7 z9_8 z9_9 z9_10 z9_11 z9_12 z9_13 z9_14 z9_15 z9_16 z9_17 z9_18 z9_19 z9_20 z9_21 z9_22 z9_23 z9_24 z9_25 z9_26 z9_27 z9_28 z9_29 z9_30 z9_31 z9_32 z9_33 z9_34 z9_35 z9_36 z9_37 z9_38 z9_39 z9_40 z9_41 z9_42 z9_43 z9_44 z9_45 z9_46 z9_47 z9_48 z9_49 z9_50 z9_51 z9_52 z9_53 z9_54 z9_55 z9_56 z9_57 z9_58 z9_59 z9_60 z9_61 z9_62 z9_63 z9_64 z9_65 z9_66 z9_67 z9_68 z9_69 z9_70; simp only [condP, eq_self, implies_true, and_self, true_and, and_true, true_implies, forall_const, decide_eq_true_eq, decide_eq_false_iff_not, Int.toNat_natCast, dSpan_eSpan, dReach_eReach, dWay_eWay, dStep_eStep, dFar_eFar, dInt_eInt, Nat.zero_add, Int.zero_sub, Nat.le_eq, Nat.succ_eq_add_one, Nat.add_one_le_iff, Bool.not_eq_true', Bool.not_eq_false', rng_length, dSpan_mk, dReach_mk, dWay_mk, dStep_mk, dFar_mk, rng_getD, DL.d1, DL.d2, DL.d7, DL.d8, net_check]
  intro hb
  have hs : a.N.g.length ≤ 10 ∧ a.N.r.length ≤ 17 ∧ a.T.f.length ≤ 20 ∧ a.T.t.length ≤ 20 := by
    by_cases x : (a.N.g.length : Int) > 10
    · simp [x] at hb
    · by_cases y : (a.N.r.length : Int) > 17
      · simp [x, y] at hb
      · by_cases z : (a.T.f.length : Int) > 20
        · simp [x, y, z] at hb
        · by_cases w : (a.T.t.length : Int) > 20
          · simp [x, y, z, w] at hb
          · omega
  clear hb
  obtain ⟨s1, s2, s3, s4⟩ := hs
  have b1 : a.N.g.length ≤ 1000000 := by omega
  have b2 : a.N.r.length ≤ 1000000 := by omega
  have b3 : a.T.f.length ≤ 1000000 := by omega
  have b4 : a.T.t.length ≤ 1000000 := by omega
  have b5 : (balL a.N a.T).length < 4611686018427387904 := by
    have := unbK_len a.N a.T a.N.g.length
    unfold balL unbM
    split
    · omega
    · simp
  have b6 : a.T.f.length < 4611686018427387904 := by omega
  have b7 : a.T.t.length < 4611686018427387904 := by omega
  simp [b1, b2, b3, b4, b5, b6, b7]
theorem c9 (a : NT) : FnT Try.prog 9 (xsNT a) (heapOf []) (.bool true) [] :=
  fnt (A := A9) (ren := []) (fz := []) Try.func9 (by kernel_rfl) (gok_cons ok14 (gok_cons ok15 (gok_cons ok16 (gok_cons ok17 (gok_cons ok44 (gok_cons ok45 (gok_cons ok46 (gok_cons ok47 (gok_cons ok27 (gok_cons ok48 (gok_cons ok40 (gok_cons ok42 (gok_cons ok22 (gok_cons ok28 gok_nil)))))))))))))) (p9 a)
end Go.Bal
