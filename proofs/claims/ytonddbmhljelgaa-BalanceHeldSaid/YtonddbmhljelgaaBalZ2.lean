/- Balanced of the reference; Balanced, Holds, Cost of both. -/
import Derived.Test.YtonddbmhljelgaaBalZ
set_option linter.unusedVariables false
set_option linter.unusedSimpArgs false
namespace Go.Bal
open Go Go.Sym Go.Proofs
def balL (N : NetL) (T : TruthL) : List Int := if askM N T = 0 then unbM N T else []
def xsNT (a : NT) : List AVal := [.d (eNetL a.N), .d (eTruthL a.T)]
def C47 : Ctr := { α := NT, xs := xsNT, L := fun _ => [], val := fun a => .tup [.d (eIntsL (balL a.N a.T)), .int (askM a.N a.T)], keep := fun _ => [], pre := fun a => [sizeN a.N, sizeT a.T] }
def A46 := ann 16 [(78, C78.spec d78), (79, C79.spec d78)]
def V46 (a : NT) : Prop := fnVC Try.prog A46 Try.f46 (bodyOf Try.f46) (C47.xs a) (heapOf []) (C47.val a) [] [] []
abbrev z46_0 (a : NT) : List Span := rng a.N.g.length fun (i : Nat) => gD a.N.g i
abbrev z46_1 (a : NT) : Nat := (z46_0 a).length
abbrev z46_2 (a : NT) : Prop := z46_1 a = a.N.g.length
abbrev z46_3 (a : NT) (i : Nat) : Span := gD (z46_0 a) i
abbrev z46_4 (a : NT) : Prop := ∀ (i : Nat), i < z46_1 a → (z46_3 a i).lo = (gD a.N.g i).lo ∧ (z46_3 a i).hi = (gD a.N.g i).hi
abbrev z46_5 (a : NT) : List Reach := rng a.N.r.length fun (i : Nat) => gD a.N.r i
abbrev z46_6 (a : NT) : Nat := (z46_5 a).length
abbrev z46_7 (a : NT) : Prop := z46_6 a = a.N.r.length
abbrev z46_8 (a : NT) (i : Nat) : Reach := gD (z46_5 a) i
abbrev z46_9 (a : NT) (i : Nat) : Span := (z46_8 a i).sp
abbrev z46_10 (a : NT) : Prop := ∀ (i : Nat), i < z46_6 a → (z46_8 a i).fr = (gD a.N.r i).fr ∧ (z46_8 a i).to = (gD a.N.r i).to ∧ (z46_9 a i).lo = (gD a.N.r i).sp.lo ∧ (z46_9 a i).hi = (gD a.N.r i).sp.hi
abbrev z46_11 (a : NT) : List Int := rng a.T.f.length fun (i : Nat) => gD a.T.f i
abbrev z46_12 (a : NT) : Nat := (z46_11 a).length
abbrev z46_13 (a : NT) : Prop := z46_12 a = a.T.f.length
abbrev z46_14 (a : NT) : Prop := ∀ (i : Nat), i < z46_12 a → gD (z46_11 a) i = gD a.T.f i
abbrev z46_15 (a : NT) : List Int := rng a.T.t.length fun (i : Nat) => gD a.T.t i
abbrev z46_16 (a : NT) : Nat := (z46_15 a).length
abbrev z46_17 (a : NT) : Prop := z46_16 a = a.T.t.length
abbrev z46_18 (a : NT) : Prop := ∀ (i : Nat), i < z46_16 a → gD (z46_15 a) i = gD a.T.t i
abbrev z46_19 (a : NT) : NetL := NetL.mk (z46_0 a) (z46_5 a)
abbrev z46_20 (a : NT) : TruthL := TruthL.mk (z46_11 a) (z46_15 a)
abbrev z46_21 (a : NT) : Int := askM (z46_19 a) (z46_20 a)
abbrev z46_22 (a : NT) : Prop := (balL a.N a.T).length = 0
abbrev z46_23 (a : NT) : List Int := unbM (z46_19 a) (z46_20 a)
theorem vc46 (a : NT) : (V46 a) = ((z46_2 a ∧ z46_4 a ∧ z46_7 a ∧ z46_10 a ∧ z46_13 a ∧ z46_14 a ∧ z46_17 a ∧ z46_18 a ∧ (z46_1 a ≤ 1000000 ∧ z46_6 a ≤ 1000000) ∧ z46_12 a ≤ 1000000 ∧ z46_16 a ≤ 1000000) ∧ bif z46_21 a
 != 0 then z46_22 a ∧ z46_22 a ∧ askM a.N a.T = z46_21 a else (z46_2 a ∧ z46_4 a ∧ z46_7 a ∧ z46_10 a ∧ z46_13 a ∧ z46_14 a ∧ z46_17 a ∧ z46_18 a ∧ checkL (z46_19 a) = 0 ∧ z46_12 a = z46_6 a ∧ z46_16 a = z46_1 a) ∧ (balL
 a.N a.T).length = (z46_23 a).length ∧ (∀ (i : Nat), i < (balL a.N a.T).length → gD (balL a.N a.T) i = gD (z46_23 a) i) ∧ askM a.N a.T = 0) := by kernel_rfl
def holdM (N : NetL) (T : TruthL) : Bool := decide (askM N T = 0) && (decide ((unbM N T).length = 0) && decide (costM N T = 0))
def costE (N : NetL) (T : TruthL) : Int := if askM N T = 0 then if (unbM N T).length = 0 then 0 else 7 else askM N T
def costV (N : NetL) (T : TruthL) : Int := if costE N T = 0 then costM N T else 0
def C48 : Ctr := { C47 with val := fun (a : NT) => .tup [.bool (holdM a.N a.T), .int (askM a.N a.T)] }
def C42 : Ctr := { C47 with val := fun (a : NT) => .tup [.int (costV a.N a.T), .int (costE a.N a.T)] }
def A48 := ann 24 [(78, C78.spec d78), (79, C79.spec d78), (70, C70.spec d70)]
def V48 (a : NT) : Prop := fnVC Try.prog A48 Try.f48 (bodyOf Try.f48) (C48.xs a) (heapOf []) (C48.val a) [] [] []
abbrev z48_0 (a : NT) : List Span := rng a.N.g.length fun (i : Nat) => gD a.N.g i
abbrev z48_1 (a : NT) : Nat := (z48_0 a).length
abbrev z48_2 (a : NT) : Prop := z48_1 a = a.N.g.length
abbrev z48_3 (a : NT) (i : Nat) : Span := gD (z48_0 a) i
abbrev z48_4 (a : NT) : Prop := ∀ (i : Nat), i < z48_1 a → (z48_3 a i).lo = (gD a.N.g i).lo ∧ (z48_3 a i).hi = (gD a.N.g i).hi
abbrev z48_5 (a : NT) : List Reach := rng a.N.r.length fun (i : Nat) => gD a.N.r i
abbrev z48_6 (a : NT) : Nat := (z48_5 a).length
abbrev z48_7 (a : NT) : Prop := z48_6 a = a.N.r.length
abbrev z48_8 (a : NT) (i : Nat) : Reach := gD (z48_5 a) i
abbrev z48_9 (a : NT) (i : Nat) : Span := (z48_8 a i).sp
abbrev z48_10 (a : NT) : Prop := ∀ (i : Nat), i < z48_6 a → (z48_8 a i).fr = (gD a.N.r i).fr ∧ (z48_8 a i).to = (gD a.N.r i).to ∧ (z48_9 a i).lo = (gD a.N.r i).sp.lo ∧ (z48_9 a i).hi = (gD a.N.r i).sp.hi
abbrev z48_11 (a : NT) : List Int := rng a.T.f.length fun (i : Nat) => gD a.T.f i
abbrev z48_12 (a : NT) : Nat := (z48_11 a).length
abbrev z48_13 (a : NT) : Prop := z48_12 a = a.T.f.length
abbrev z48_14 (a : NT) : Prop := ∀ (i : Nat), i < z48_12 a → gD (z48_11 a) i = gD a.T.f i
abbrev z48_15 (a : NT) : List Int := rng a.T.t.length fun (i : Nat) => gD a.T.t i
abbrev z48_16 (a : NT) : Nat := (z48_15 a).length
abbrev z48_17 (a : NT) : Prop := z48_16 a = a.T.t.length
abbrev z48_18 (a : NT) : Prop := ∀ (i : Nat), i < z48_16 a → gD (z48_15 a) i = gD a.T.t i
abbrev z48_19 (a : NT) : NetL := NetL.mk (z48_0 a) (z48_5 a)
abbrev z48_20 (a : NT) : TruthL := TruthL.mk (z48_11 a) (z48_15 a)
abbrev z48_21 (a : NT) : Int := askM (z48_19 a) (z48_20 a)
abbrev z48_22 (a : NT) : Prop := z48_12 a = z48_6 a ∧ z48_16 a = z48_1 a
abbrev z48_23 (a : NT) : Bool := (↑(unbM (z48_19 a) (z48_20 a)).length : Int) == 0
theorem vc48 (a : NT) : (V48 a) = ((z48_2 a ∧ z48_4 a ∧ z48_7 a ∧ z48_10 a ∧ z48_13 a ∧ z48_14 a ∧ z48_17 a ∧ z48_18 a ∧ (z48_1 a ≤ 1000000 ∧ z48_6 a ≤ 1000000) ∧ z48_12 a ≤ 1000000 ∧ z48_16 a ≤ 1000000) ∧ bif z48_21 a
 != 0 then holdM a.N a.T = false ∧ askM a.N a.T = z48_21 a else (z48_2 a ∧ z48_4 a ∧ z48_7 a ∧ z48_10 a ∧ z48_13 a ∧ z48_14 a ∧ z48_17 a ∧ z48_18 a ∧ checkL (z48_19 a) = 0 ∧ z48_22 a ∧ (z48_23 a = true → z48_2 a ∧ z48_4 a
 ∧ z48_7 a ∧ z48_10 a ∧ z48_13 a ∧ z48_14 a ∧ z48_17 a ∧ z48_18 a ∧ (1 ≤ z48_1 a ∧ z48_1 a ≤ 1000) ∧ z48_6 a ≤ 1000 ∧ z48_22 a)) ∧ (holdM a.N a.T = bif z48_23 a then costM (z48_19 a) (z48_20 a) == 0 else false) ∧ askM a.N
 a.T = 0) := by kernel_rfl
def A42 := ann 21 [(78, C78.spec d78), (79, C79.spec d78), (70, C70.spec d70)]
def V42 (a : NT) : Prop := fnVC Try.prog A42 Try.f42 (bodyOf Try.f42) (C42.xs a) (heapOf []) (C42.val a) [] [] []
abbrev z42_0 (a : NT) : List Span := rng a.N.g.length fun (i : Nat) => gD a.N.g i
abbrev z42_1 (a : NT) : Nat := (z42_0 a).length
abbrev z42_2 (a : NT) : Prop := z42_1 a = a.N.g.length
abbrev z42_3 (a : NT) (i : Nat) : Span := gD (z42_0 a) i
abbrev z42_4 (a : NT) : Prop := ∀ (i : Nat), i < z42_1 a → (z42_3 a i).lo = (gD a.N.g i).lo ∧ (z42_3 a i).hi = (gD a.N.g i).hi
abbrev z42_5 (a : NT) : List Reach := rng a.N.r.length fun (i : Nat) => gD a.N.r i
abbrev z42_6 (a : NT) : Nat := (z42_5 a).length
abbrev z42_7 (a : NT) : Prop := z42_6 a = a.N.r.length
abbrev z42_8 (a : NT) (i : Nat) : Reach := gD (z42_5 a) i
abbrev z42_9 (a : NT) (i : Nat) : Span := (z42_8 a i).sp
abbrev z42_10 (a : NT) : Prop := ∀ (i : Nat), i < z42_6 a → (z42_8 a i).fr = (gD a.N.r i).fr ∧ (z42_8 a i).to = (gD a.N.r i).to ∧ (z42_9 a i).lo = (gD a.N.r i).sp.lo ∧ (z42_9 a i).hi = (gD a.N.r i).sp.hi
abbrev z42_11 (a : NT) : List Int := rng a.T.f.length fun (i : Nat) => gD a.T.f i
abbrev z42_12 (a : NT) : Nat := (z42_11 a).length
abbrev z42_13 (a : NT) : Prop := z42_12 a = a.T.f.length
abbrev z42_14 (a : NT) : Prop := ∀ (i : Nat), i < z42_12 a → gD (z42_11 a) i = gD a.T.f i
abbrev z42_15 (a : NT) : List Int := rng a.T.t.length fun (i : Nat) => gD a.T.t i
abbrev z42_16 (a : NT) : Nat := (z42_15 a).length
abbrev z42_17 (a : NT) : Prop := z42_16 a = a.T.t.length
abbrev z42_18 (a : NT) : Prop := ∀ (i : Nat), i < z42_16 a → gD (z42_15 a) i = gD a.T.t i
abbrev z42_19 (a : NT) : NetL := NetL.mk (z42_0 a) (z42_5 a)
abbrev z42_20 (a : NT) : TruthL := TruthL.mk (z42_11 a) (z42_15 a)
abbrev z42_21 (a : NT) : Int := askM (z42_19 a) (z42_20 a)
abbrev z42_22 (a : NT) : Prop := costV a.N a.T = 0
abbrev z42_23 (a : NT) : Prop := z42_12 a = z42_6 a ∧ z42_16 a = z42_1 a
theorem vc42 (a : NT) : (V42 a) = ((z42_2 a ∧ z42_4 a ∧ z42_7 a ∧ z42_10 a ∧ z42_13 a ∧ z42_14 a ∧ z42_17 a ∧ z42_18 a ∧ (z42_1 a ≤ 1000000 ∧ z42_6 a ≤ 1000000) ∧ z42_12 a ≤ 1000000 ∧ z42_16 a ≤ 1000000) ∧ bif z42_21 a
 != 0 then z42_22 a ∧ costE a.N a.T = z42_21 a else (z42_2 a ∧ z42_4 a ∧ z42_7 a ∧ z42_10 a ∧ z42_13 a ∧ z42_14 a ∧ z42_17 a ∧ z42_18 a ∧ checkL (z42_19 a) = 0 ∧ z42_23 a) ∧ bif decide ((↑(unbM (z42_19 a) (z42_20
 a)).length : Int) > 0) then z42_22 a ∧ costE a.N a.T = 7 else (z42_2 a ∧ z42_4 a ∧ z42_7 a ∧ z42_10 a ∧ z42_13 a ∧ z42_14 a ∧ z42_17 a ∧ z42_18 a ∧ (1 ≤ z42_1 a ∧ z42_1 a ≤ 1000) ∧ z42_6 a ≤ 1000 ∧ z42_23 a) ∧ costV a.N
 a.T = costM (z42_19 a) (z42_20 a) ∧ costE a.N a.T = 0) := by kernel_rfl
theorem p46 (a : NT) (h1 : sizeN a.N) (h2 : sizeT a.T) : V46 a := by
  rw [vc46]; delta z46_0 z46_1 z46_2 z46_3 z46_4 z46_5 z46_6 z46_7 z46_8 z46_9 z46_10 z46_11 z46_12 z46_13 z46_14 z46_15 z46_16 z46_17 z46_18 z46_19 z46_20 z46_21 z46_22 z46_23; simp only [condP, eq_self, implies_true, and_self, true_and, and_true, true_implies, forall_const, decide_eq_true_eq, decide_eq_false_iff_not, Int.toNat_natCast, dSpan_eSpan, dReach_eReach, dWay_eWay, dStep_eStep, dFar_eFar, dInt_eInt, Nat.zero_add, Int.zero_sub, Nat.le_eq, Nat.succ_eq_add_one, Nat.add_one_le_iff, Bool.not_eq_true', Bool.not_eq_false', rng_length, dSpan_mk, dReach_mk, dWay_mk, dStep_mk, dFar_mk, rng_getD, DL.d1, DL.d2, DL.d7, DL.d8]
  have hz : (askM a.N a.T != 0) = false → askM a.N a.T = 0 := fun h => by simpa using h
  have hnz : (askM a.N a.T != 0) = true → askM a.N a.T ≠ 0 := fun h => by simpa using h
  refine ⟨⟨h1, h2⟩, fun he => ?_, fun he => ?_⟩
  · unfold balL; rw [if_neg (hnz he)]; rfl
  · have ha := hz he
    obtain ⟨hc, hl, _, _⟩ := askM_zero ha
    have hbl : balL a.N a.T = unbM a.N a.T := by unfold balL; rw [if_pos ha]
    rw [hbl]
    exact ⟨⟨hc, hl⟩, rfl, fun _ _ => rfl, ha⟩
theorem p48 (a : NT) (h1 : sizeN a.N) (h2 : sizeT a.T) : V48 a := by
  rw [vc48]; delta z48_0 z48_1 z48_2 z48_3 z48_4 z48_5 z48_6 z48_7 z48_8 z48_9 z48_10 z48_11 z48_12 z48_13 z48_14 z48_15 z48_16 z48_17 z48_18 z48_19 z48_20 z48_21 z48_22 z48_23; simp only [condP, eq_self, implies_true, and_self, true_and, and_true, true_implies, forall_const, decide_eq_true_eq, decide_eq_false_iff_not, Int.toNat_natCast, dSpan_eSpan, dReach_eReach, dWay_eWay, dStep_eStep, dFar_eFar, dInt_eInt, Nat.zero_add, Int.zero_sub, Nat.le_eq, Nat.succ_eq_add_one, Nat.add_one_le_iff, Bool.not_eq_true', Bool.not_eq_false', rng_length, dSpan_mk, dReach_mk, dWay_mk, dStep_mk, dFar_mk, rng_getD, DL.d1, DL.d2, DL.d7, DL.d8]
  have hz : (askM a.N a.T != 0) = false → askM a.N a.T = 0 := fun h => by simpa using h
  have hnz : (askM a.N a.T != 0) = true → askM a.N a.T ≠ 0 := fun h => by simpa using h
  refine ⟨⟨h1, h2⟩, fun he => ?_, fun he => ?_⟩
  · unfold holdM; rw [decide_eq_false (hnz he)]; rfl
  · have ha := hz he
    obtain ⟨hc, hl, _, _⟩ := askM_zero ha
    have hg := good_of hc
    refine ⟨⟨hc, hl, fun _ => ⟨⟨hg.g1, by have := hg.g8; omega⟩, by have := hg.r14; omega, hl⟩⟩, ?_, ha⟩
    unfold holdM; rw [decide_eq_true ha]
    by_cases x : (unbM a.N a.T).length = 0 <;> by_cases y : costM a.N a.T = 0 <;> simp [x, y] <;> simp_all
theorem p42 (a : NT) (h1 : sizeN a.N) (h2 : sizeT a.T) : V42 a := by
  rw [vc42]; delta z42_0 z42_1 z42_2 z42_3 z42_4 z42_5 z42_6 z42_7 z42_8 z42_9 z42_10 z42_11 z42_12 z42_13 z42_14 z42_15 z42_16 z42_17 z42_18 z42_19 z42_20 z42_21 z42_22 z42_23; simp only [condP, eq_self, implies_true, and_self, true_and, and_true, true_implies, forall_const, decide_eq_true_eq, decide_eq_false_iff_not, Int.toNat_natCast, dSpan_eSpan, dReach_eReach, dWay_eWay, dStep_eStep, dFar_eFar, dInt_eInt, Nat.zero_add, Int.zero_sub, Nat.le_eq, Nat.succ_eq_add_one, Nat.add_one_le_iff, Bool.not_eq_true', Bool.not_eq_false', rng_length, dSpan_mk, dReach_mk, dWay_mk, dStep_mk, dFar_mk, rng_getD, DL.d1, DL.d2, DL.d7, DL.d8]
  have hz : (askM a.N a.T != 0) = false → askM a.N a.T = 0 := fun h => by simpa using h
  have hnz : (askM a.N a.T != 0) = true → askM a.N a.T ≠ 0 := fun h => by simpa using h
  refine ⟨⟨h1, h2⟩, fun he => ?_, fun he => ?_⟩
  · have : costE a.N a.T = askM a.N a.T := by unfold costE; rw [if_neg (hnz he)]
    exact ⟨by unfold costV; rw [this, if_neg (hnz he)], this⟩
  · have ha := hz he
    obtain ⟨hc, hl, _, _⟩ := askM_zero ha
    have hg := good_of hc
    refine ⟨⟨hc, hl⟩, fun hu => ?_, fun hu => ⟨⟨⟨hg.g1, by have := hg.g8; omega⟩, by have := hg.r14; omega, hl⟩, ?_⟩⟩
    · have : costE a.N a.T = 7 := by unfold costE; rw [if_pos ha, if_neg (by omega)]
      exact ⟨by unfold costV; rw [this]; rfl, this⟩
    · have : costE a.N a.T = 0 := by unfold costE; rw [if_pos ha, if_pos (by omega)]
      exact ⟨by unfold costV; rw [if_pos this], this⟩
end Go.Bal
