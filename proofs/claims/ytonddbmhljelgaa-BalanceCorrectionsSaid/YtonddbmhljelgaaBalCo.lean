/- BalanceCorrections. -/
import Derived.Test.YtonddbmhljelgaaBalAr
import Derived.Test.YtonddbmhljelgaaBalLvU
set_option linter.unusedVariables false
set_option linter.unusedSimpArgs false
namespace Go.Bal
open Go Go.Sym Go.Proofs
def bigM (N : NetL) : Bool := decide (N.g.length > 6) && decide (N.g.length < 9) || decide (N.g.length > 10) || (decide (N.r.length > 10) && decide (N.r.length < 15)) || decide (N.r.length > 17)
def C13 : Ctr := { α := NetL, xs := xsN, val := fun N => .bool (bigM N) }
def V13 (N : NetL) : Prop := fnVC Try.prog (ann 37 []) Try.f13 (bodyOf Try.f13) (C13.xs N) (heapOf []) (C13.val N) (C13.keep N) [] []
theorem vc13 (N : NetL) : (V13 N) = (bigM N = bif bif bif bif decide ((↑N.g.length : Int) > 6) then decide ((↑N.g.length : Int) < 9) else false then true else decide ((↑N.g.length : Int) > 10) then true else bif decide
 ((↑N.r.length : Int) > 10) then decide ((↑N.r.length : Int) < 15) else false then true else decide ((↑N.r.length : Int) > 17)) := by kernel_rfl
theorem p13 (N : NetL) : V13 N := by
  rw [vc13]
  unfold bigM
  have q1 : decide ((N.g.length : Int) > 6) = decide (N.g.length > 6) := by rw [decide_eq_decide]; omega
  have q2 : decide ((N.g.length : Int) < 9) = decide (N.g.length < 9) := by rw [decide_eq_decide]; omega
  have q3 : decide ((N.g.length : Int) > 10) = decide (N.g.length > 10) := by rw [decide_eq_decide]; omega
  have q4 : decide ((N.r.length : Int) > 10) = decide (N.r.length > 10) := by rw [decide_eq_decide]; omega
  have q5 : decide ((N.r.length : Int) < 15) = decide (N.r.length < 15) := by rw [decide_eq_decide]; omega
  have q6 : decide ((N.r.length : Int) > 17) = decide (N.r.length > 17) := by rw [decide_eq_decide]; omega
  simp only [q1, q2, q3, q4, q5, q6]
  cases decide (N.g.length > 6) <;> cases decide (N.g.length < 9) <;> cases decide (N.g.length > 10) <;> cases decide (N.r.length > 10) <;> cases decide (N.r.length < 15) <;> cases decide (N.r.length > 17) <;> simp
theorem ok13 : SpecOk Try.prog 13 (C13.spec dN) := okC C13 (fun _ => ann 37 []) [] [] Try.func13 (fun _ => by kernel_rfl) (fun _ => gok_nil) (fun N _ => p13 N) (fun _ => noI rfl rfl) _
def A3 := ann 184 [(13, C13.spec dN), (14, s14), (15, C15.spec d67), (16, C16.spec d16), (17, C17.spec d17), (18, C18.spec dN), (19, C19t.spec dN), (20, C20t.spec dN), (21, C21t.spec dN), (22, C42.spec d42), (23, C23.spec dP), (24, C24.spec dP), (25, C25t.spec dN), (26, C26.spec dN), (27, C27.spec d27), (28, C28.spec d28)]
def V3 (a : NPL) : Prop := fnVC Try.prog A3 Try.f3 (bodyOf Try.f3) (xs24 a) (heapOf []) (.bool true) [] [] []
abbrev z3_0 (a : NPL) : List Span := rng a.N.g.length fun (i : Nat) => gD a.N.g i
abbrev z3_1 (a : NPL) : Nat := (z3_0 a).length
abbrev z3_2 (a : NPL) : Prop := z3_1 a = a.N.g.length
abbrev z3_3 (a : NPL) (i : Nat) : Span := gD (z3_0 a) i
abbrev z3_4 (a : NPL) (i : Nat) : Int := (z3_3 a i).lo
abbrev z3_5 (a : NPL) (i : Nat) : Int := (z3_3 a i).hi
abbrev z3_6 (a : NPL) : Prop := ∀ (i : Nat), i < z3_1 a → z3_4 a i = (gD a.N.g i).lo ∧ z3_5 a i = (gD a.N.g i).hi
abbrev z3_7 (a : NPL) : List Reach := rng a.N.r.length fun (i : Nat) => gD a.N.r i
abbrev z3_8 (a : NPL) : Nat := (z3_7 a).length
abbrev z3_9 (a : NPL) : Prop := z3_8 a = a.N.r.length
abbrev z3_10 (a : NPL) (i : Nat) : Reach := gD (z3_7 a) i
abbrev z3_11 (a : NPL) (i : Nat) : Int := (z3_10 a i).fr
abbrev z3_12 (a : NPL) (i : Nat) : Int := (z3_10 a i).to
abbrev z3_13 (a : NPL) (i : Nat) : Span := (z3_10 a i).sp
abbrev z3_14 (a : NPL) (i : Nat) : Int := (z3_13 a i).lo
abbrev z3_15 (a : NPL) (i : Nat) : Int := (z3_13 a i).hi
abbrev z3_16 (a : NPL) : Prop := ∀ (i : Nat), i < z3_8 a → z3_11 a i = (gD a.N.r i).fr ∧ z3_12 a i = (gD a.N.r i).to ∧ z3_14 a i = (gD a.N.r i).sp.lo ∧ z3_15 a i = (gD a.N.r i).sp.hi
abbrev z3_17 (a : NPL) : NetL := NetL.mk (z3_0 a) (z3_7 a)
abbrev z3_18 (a : NPL) : Prop := z3_1 a ≤ 1000000
abbrev z3_19 (a : NPL) : Prop := z3_8 a ≤ 1000000
abbrev z3_20 (a : NPL) : List Int := rng a.lv.length fun (i : Nat) => gD a.lv i
abbrev z3_21 (a : NPL) : Nat := (z3_20 a).length
abbrev z3_22 (a : NPL) : Prop := z3_21 a = a.lv.length
abbrev z3_23 (a : NPL) (i : Nat) : Int := gD (z3_20 a) i
abbrev z3_24 (a : NPL) : Prop := ∀ (i : Nat), i < z3_21 a → z3_23 a i = gD a.lv i
abbrev z3_25 (a : NPL) : List Span := rng (z3_1 a) fun (i : Nat) => z3_3 a i
abbrev z3_26 (a : NPL) : Nat := (z3_25 a).length
abbrev z3_27 (a : NPL) : Prop := z3_26 a = z3_1 a
abbrev z3_28 (a : NPL) (i : Nat) : Span := gD (z3_25 a) i
abbrev z3_29 (a : NPL) : Prop := ∀ (i : Nat), i < z3_26 a → (z3_28 a i).lo = z3_4 a i ∧ (z3_28 a i).hi = z3_5 a i
abbrev z3_30 (a : NPL) : List Reach := rng (z3_8 a) fun (i : Nat) => z3_10 a i
abbrev z3_31 (a : NPL) : Nat := (z3_30 a).length
abbrev z3_32 (a : NPL) : Prop := z3_31 a = z3_8 a
abbrev z3_33 (a : NPL) (i : Nat) : Reach := gD (z3_30 a) i
abbrev z3_34 (a : NPL) (i : Nat) : Span := (z3_33 a i).sp
abbrev z3_35 (a : NPL) : Prop := ∀ (i : Nat), i < z3_31 a → (z3_33 a i).fr = z3_11 a i ∧ (z3_33 a i).to = z3_12 a i ∧ (z3_34 a i).lo = z3_14 a i ∧ (z3_34 a i).hi = z3_15 a i
abbrev z3_36 (a : NPL) : Prop := z3_26 a ≤ 1000000 ∧ z3_31 a ≤ 1000000
abbrev z3_37 (a : NPL) : Prop := z3_27 a ∧ z3_29 a ∧ z3_32 a ∧ z3_35 a ∧ z3_36 a
abbrev z3_38 (a : NPL) : Prop := z3_27 a ∧ z3_29 a ∧ z3_32 a ∧ z3_35 a
abbrev z3_39 (a : NPL) : NetL := NetL.mk (z3_25 a) (z3_30 a)
abbrev z3_40 (a : NPL) : Int := checkL (z3_39 a)
abbrev z3_41 (a : NPL) : Bool := z3_40 a != z3_40 a
abbrev z3_42 (a : NPL) : Bool := z3_40 a == 0
abbrev z3_43 (a : NPL) : Int := leastM (z3_39 a)
abbrev z3_44 (a : NPL) : TruthL := corT (z3_39 a)
abbrev z3_45 (a : NPL) : List Int := (z3_44 a).f
abbrev z3_46 (a : NPL) : Nat := (z3_45 a).length
abbrev z3_47 (a : NPL) : List Int := (z3_44 a).t
abbrev z3_48 (a : NPL) : Nat := (z3_47 a).length
abbrev z3_49 (a : NPL) : List Int := levT (z3_39 a)
abbrev z3_50 (a : NPL) : Nat := (z3_49 a).length
abbrev z3_51 (a : NPL) (i : Nat) : Int := gD (z3_45 a) i
abbrev z3_52 (a : NPL) : List Int := rng (z3_46 a) fun (i : Nat) => z3_51 a i
abbrev z3_53 (a : NPL) : Nat := (z3_52 a).length
abbrev z3_54 (a : NPL) (i : Nat) : Int := gD (z3_47 a) i
abbrev z3_55 (a : NPL) : List Int := rng (z3_48 a) fun (i : Nat) => z3_54 a i
abbrev z3_56 (a : NPL) : Nat := (z3_55 a).length
abbrev z3_57 (a : NPL) : TruthL := TruthL.mk (z3_52 a) (z3_55 a)
abbrev z3_58 (a : NPL) (i : Nat) : Int := gD (z3_49 a) i
abbrev z3_59 (a : NPL) : List Int := rng (z3_50 a) fun (i : Nat) => z3_58 a i
abbrev z3_60 (a : NPL) : Nat := (z3_59 a).length
abbrev z3_61 (a : NPL) : Int := provE (NPL.mk (z3_39 a) (z3_43 a) (z3_59 a))
abbrev z3_62 (a : NPL) : List Bool := noneL (z3_39 a)
abbrev z3_63 (a : NPL) : List Int := rng (z3_21 a) fun (i : Nat) => z3_23 a i
abbrev z3_64 (a : NPL) : Nat := (z3_63 a).length
abbrev z3_65 (a : NPL) : Prop := z3_64 a = z3_21 a
abbrev z3_66 (a : NPL) : Prop := ∀ (i : Nat), i < z3_64 a → gD (z3_63 a) i = z3_23 a i
abbrev z3_67 (a : NPL) : Int := provE (NPL.mk (z3_39 a) a.price (z3_63 a))
abbrev z3_68 (a : NPL) : Int := provE (NPL.mk (z3_39 a) a.price (z3_20 a))
abbrev z3_69 (a : NPL) : Bool := suspE (z3_39 a) == rsE (z3_39 a)
abbrev z3_70 (a : NPL) : List Int := susT (z3_39 a)
abbrev z3_71 (a : NPL) : Nat := (z3_70 a).length
abbrev z3_72 (a : NPL) (i : Nat) : Int := gD (z3_70 a) i
abbrev z3_73 (a : NPL) : List Int := rng (z3_71 a) fun (i : Nat) => z3_72 a i
abbrev z3_74 (a : NPL) : Nat := (z3_73 a).length
abbrev z3_75 (a : NPL) : List Int := rsT (z3_39 a)
abbrev z3_76 (a : NPL) : Nat := (z3_75 a).length
abbrev z3_77 (a : NPL) (i : Nat) : Int := gD (z3_75 a) i
abbrev z3_78 (a : NPL) : List Int := rng (z3_76 a) fun (i : Nat) => z3_77 a i
abbrev z3_79 (a : NPL) : Nat := (z3_78 a).length
abbrev z3_80 (a : NPL) : Bool := bif z3_69 a then decide (z3_73 a = z3_78 a) else false
abbrev z3_81 (a : NPL) : Bool := bif z3_80 a then decide (z3_39 a = z3_17 a) else false
abbrev z3_82 (a : NPL) : Prop := (z3_27 a ∧ z3_29 a ∧ z3_32 a ∧ z3_35 a ∧ a.price = a.price ∧ z3_65 a ∧ z3_66 a ∧ (z3_64 a).succ.le 4611686018427387904) ∧ (z3_27 a ∧ z3_29 a ∧ z3_32 a ∧ z3_35 a ∧ a.price = a.price ∧
 z3_22 a ∧ z3_24 a ∧ z3_21 a < 4611686018427387904 ∧ z3_36 a) ∧ bif bif z3_67 a != z3_68 a then true else !(decide (z3_67 a = 0) && decide (a.price ≤ provedM (z3_39 a) (z3_63 a))) == (decide (z3_68 a = 0) && decide
 (a.price ≤ pvG (PvA.mk (z3_39 a) (z3_20 a) (z3_62 a) 0 (-1)) (z3_26 a))) then true = false else z3_38 a ∧ z3_37 a ∧ ((z3_69 a = true → z3_74 a = z3_71 a ∧ (∀ (i : Nat), i < z3_74 a → gD (z3_73 a) i = z3_72 a i) ∧ z3_79 a
 = z3_76 a ∧ (∀ (i : Nat), i < z3_79 a → gD (z3_78 a) i = z3_77 a i) ∧ z3_74 a < 4611686018427387904 ∧ (z3_79 a).succ.le 4611686018427387904) ∧ (z3_80 a = true → z3_27 a ∧ z3_29 a ∧ z3_32 a ∧ z3_35 a ∧ z3_2 a ∧ z3_6 a ∧
 z3_9 a ∧ z3_16 a ∧ z3_36 a ∧ z3_18 a ∧ z3_19 a) ∧ (z3_81 a = true → z3_65 a ∧ z3_66 a ∧ z3_22 a ∧ z3_24 a ∧ z3_64 a < 4611686018427387904 ∧ (z3_21 a).succ.le 4611686018427387904)) ∧ true = bif bif z3_81 a then decide
 (z3_63 a = z3_20 a) else false then true else false
theorem vc3 (a : NPL) : (V3 a) = ((z3_2 a ∧ z3_6 a ∧ z3_9 a ∧ z3_16 a) ∧ bif bif bigM (z3_17 a) then true else decide ((↑a.lv.length : Int) > 12) then true = true else (z3_2 a ∧ z3_6 a ∧ z3_9 a ∧ z3_16 a ∧ z3_18 a ∧
 z3_19 a ∧ z3_22 a ∧ z3_24 a ∧ (z3_21 a).le 1000000) ∧ (z3_2 a ∧ z3_6 a ∧ z3_9 a ∧ z3_16 a ∧ z3_18 a ∧ (z3_8 a).le 1000000) ∧ z3_37 a ∧ z3_38 a ∧ bif bif z3_41 a then true else !agrM (z3_39 a) == bif z3_42 a then z3_43 a
 == 0 else false then true = false else z3_38 a ∧ z3_38 a ∧ bif bif bif bif z3_41 a then true else z3_41 a then true else corC (z3_39 a) != z3_43 a then true else bif z3_40 a != 0 then decide (IntKind.i64.wrap
 (IntKind.i64.wrap ((↑(z3_46 a) : Int) + (↑(z3_48 a) : Int)) + (↑(z3_50 a) : Int)) > 0) else false then true = false else bif z3_42 a then (z3_27 a ∧ z3_29 a ∧ z3_32 a ∧ z3_35 a ∧ z3_53 a = z3_46 a ∧ (∀ (i : Nat), i <
 z3_53 a → gD (z3_52 a) i = z3_51 a i) ∧ z3_56 a = z3_48 a ∧ (∀ (i : Nat), i < z3_56 a → gD (z3_55 a) i = z3_54 a i) ∧ z3_36 a ∧ z3_53 a ≤ 1000000 ∧ z3_56 a ≤ 1000000) ∧ bif bif costE (z3_39 a) (z3_57 a) != 0 then true
 else costV (z3_39 a) (z3_57 a) != z3_43 a then true = false else (z3_27 a ∧ z3_29 a ∧ z3_32 a ∧ z3_35 a ∧ z3_43 a = z3_43 a ∧ z3_60 a = z3_50 a ∧ (∀ (i : Nat), i < z3_60 a → gD (z3_59 a) i = z3_58 a i) ∧ z3_60 a <
 4611686018427387904 ∧ z3_36 a) ∧ bif bif z3_61 a != 0 then true else !(decide (z3_61 a = 0) && decide (z3_43 a ≤ pvG (PvA.mk (z3_39 a) (z3_59 a) (z3_62 a) 0 (-1)) (z3_26 a))) then true = false else z3_82 a else z3_82 a)
 := by kernel_rfl
theorem pv_same (N : NetL) (p : Int) (lv : List Int) : (decide (provE ⟨N, p, lv⟩ = 0) && decide (p ≤ pvG ⟨N, lv, noneL N, 0, -1⟩ N.g.length)) = (decide (provE ⟨N, p, lv⟩ = 0) && decide (p ≤ provedM N lv)) := by
  by_cases h : provE ⟨N, p, lv⟩ = 0
  · have hc : checkL N = 0 := by
      unfold provE at h; simp only at h
      by_cases hc : checkL N = 0
      · exact hc
      · rw [if_neg hc] at h; exact h
    have hv : levOk N lv = true := by
      unfold provE at h; simp only at h
      rw [if_pos hc] at h
      cases hv : levOk N lv with
      | true => rfl
      | false => rw [hv] at h; simp at h
    obtain ⟨a, b⟩ := levOk_bd hv
    rw [pv_proved (good_of hc) a b]
  · rw [decide_eq_false h]; rfl
theorem susT_len (N : NetL) : (susT N).length ≤ N.r.length := by
  unfold susT
  split
  · unfold suspK
    rw [List.length_map]
    have := List.length_filter_le (fun i => suspB N i) (List.range N.r.length)
    rw [List.length_range] at this; exact this
  · simp
theorem big_of {N : NetL} {n : Nat} (h : (bif bigM N then true else decide ((n : Int) > 12)) = false) : N.g.length ≤ 10 ∧ N.r.length ≤ 17 ∧ n ≤ 12 := by
  unfold bigM at h
  by_cases a : N.g.length > 10
  · simp [a] at h
  · by_cases b : N.r.length > 17
    · simp [b] at h
    · by_cases c : (n : Int) > 12
      · simp [c] at h
      · omega
theorem p3 (a : NPL) : V3 a := by
  obtain ⟨N, p, lv⟩ := a
  have et : NetL.mk N.g N.r = N := rfl
  have ets : ∀ T : TruthL, TruthL.mk T.f T.t = T := fun _ => rfl
  rw [vc3]; delta z3_0 z3_1 z3_2 z3_3 z3_4 z3_5 z3_6 z3_7 z3_8 z3_9 z3_10 z3_11 z3_12 z3_13 z3_14 z3_15 z3_16 z3_17 z3_18 z3_19 z3_20 z3_21 z3_22 z3_23 z3_24 z3_25 z3_26 z3_27 z3_28 z3_29 z3_30 z3_31 z3_32 z3_33 z3_34 z3_35 z3_36 z3_37 z3_38 z3_39 z3_40 z3_41 z3_42 z3_43 z3_44 z3_45 z3_46 z3_47 z3_48 z3_49 z3_50 z3_51 z3_52 z3_53 z3_54 z3_55 z3_56 z3_57 z3_58 z3_59 z3_60 z3_61 z3_62 z3_63 z3_64 z3_65 z3_66 z3_67 z3_68 z3_69 z3_70 z3_71 z3_72 z3_73 z3_74 z3_75 z3_76 z3_77 z3_78 z3_79 z3_80 z3_81 z3_82; simp only [condP, eq_self, implies_true, and_self, true_and, and_true, true_implies, forall_const, decide_eq_true_eq, decide_eq_false_iff_not, Int.toNat_natCast, dSpan_eSpan, dReach_eReach, dWay_eWay, dStep_eStep, dFar_eFar, dInt_eInt, Nat.zero_add, Int.zero_sub, Nat.le_eq, Nat.succ_eq_add_one, Nat.add_one_le_iff, Bool.not_eq_true', Bool.not_eq_false', rng_length, dSpan_mk, dReach_mk, dWay_mk, dStep_mk, dFar_mk, rng_getD, et, ets]
  intro hb
  obtain ⟨s1, s2, s3⟩ := big_of hb
  clear hb
  have sl := susT_len N
  obtain ⟨q1, q2⟩ := susp_eq N
  rw [q1, q2, leastM_eq, pv_same N p lv, pv_same]
  have b1 : N.g.length ≤ 1000000 := by omega
  have b2 : N.r.length ≤ 1000000 := by omega
  have b3 : lv.length ≤ 1000000 := by omega
  have b4 : lv.length < 4611686018427387904 := by omega
  have b5 : (susT N).length < 4611686018427387904 := by omega
  by_cases hc : checkL N = 0
  · obtain ⟨t1, t2, t3⟩ := setT_ok hc
    obtain ⟨_, u1, u2, _⟩ := askM_to t1
    obtain ⟨v1, v2⟩ := levM_ok hc
    have vl := (levOk_bd v1).1
    have e1 : corC N = setC N := if_pos hc
    have e2 : corT N = setT N := if_pos hc
    have e3 : levT N = levM N := if_pos hc
    have e4 : costE N (setT N) = 0 := by unfold costE; rw [if_pos t1, t2]; rfl
    have e5 : costV N (setT N) = setC N := by unfold costV; rw [if_pos e4, t3]
    have e6 : provE ⟨N, setC N, levM N⟩ = 0 := by unfold provE; simp only; rw [if_pos hc, v1]; rfl
    have e7 : agrM N = decide (setC N = 0) := by unfold agrM; rw [decide_eq_true hc]; rfl
    have b6 : (setT N).f.length ≤ 1000000 := by omega
    have b7 : (setT N).t.length ≤ 1000000 := by omega
    have b8 : (levM N).length < 4611686018427387904 := by omega
    have e8 : (setC N == 0) = decide (setC N = 0) := by cases h : decide (setC N = 0) <;> simp_all
    rw [e1, e2, e3, e4, e5, e6, e7, hc, v2, e8]
    simp [b1, b2, b3, b4, b5, b6, b7, b8]
  · have e1 : corC N = 0 := if_neg hc
    have e2 : corT N = zT := if_neg hc
    have e3 : levT N = [] := if_neg hc
    have e7 : agrM N = false := by unfold agrM; rw [decide_eq_false hc]; rfl
    have z1 : zT.f.length = 0 := rfl
    have z2 : zT.t.length = 0 := rfl
    have wz : IntKind.i64.wrap (IntKind.i64.wrap (((0 : Nat) : Int) + ((0 : Nat) : Int)) + ((0 : Nat) : Int)) = 0 := by decide
    rw [e1, e2, e3, e7, z1, z2, List.length_nil, wz]
    simp [b1, b2, b3, b4, b5, hc]
theorem c3 (a : NPL) : FnT Try.prog 3 (xs24 a) (heapOf []) (.bool true) [] :=
  fnt (A := A3) (ren := []) (fz := []) Try.func3 (by kernel_rfl) (gok_cons ok13 (gok_cons ok14 (gok_cons ok15 (gok_cons ok16 (gok_cons ok17 (gok_cons ok18 (gok_cons ok19t (gok_cons ok20t (gok_cons ok21t (gok_cons ok22 (gok_cons ok23 (gok_cons ok24t (gok_cons ok25t (gok_cons ok26 (gok_cons ok27 (gok_cons ok28 gok_nil)))))))))))))))) (p3 a)
end Go.Bal
