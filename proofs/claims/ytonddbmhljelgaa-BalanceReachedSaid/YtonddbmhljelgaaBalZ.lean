/- Balanced, Holds, Cost: the program's and the reference's. -/
import Derived.Test.YtonddbmhljelgaaBalW
set_option linter.unusedVariables false
set_option linter.unusedSimpArgs false
namespace Go.Bal
open Go Go.Sym Go.Proofs
def balS (s : Int) (x : Int) (r : Reach) (f : Int) : Int := if r.fr = s then wr (x - f) else if r.to = s then wr (x + f) else x
def balF (s : Int) : Int → List Reach → List Int → Int
  | x, r :: l, f :: m => balF s (balS s x r f) l m
  | x, _, _ => x
def balAt (N : NetL) (T : TruthL) (s : Nat) : Int := balF s (gD T.t s) N.r T.f
def unbB (N : NetL) (T : TruthL) (s : Nat) : Bool := !decide (balAt N T s = 0)
def unbK (N : NetL) (T : TruthL) (k : Nat) : List Int := ((List.range k).filter fun s => unbB N T s).map fun (s : Nat) => (s : Int)
def unbM (N : NetL) (T : TruthL) : List Int := unbK N T N.g.length
def lensOk (a : NT) : Prop := a.T.f.length = a.N.r.length ∧ a.T.t.length = a.N.g.length
def C103 : Ctr := { α := List Int, xs := fun l => [.d (eIntsL l)], L := fun _ => [], val := fun l => .own 0 1 0 l.length, keep := fun l => [(0, rowL l.length l)], pre := fun l => [0 < l.length ∧ l.length ≤ 1000] }
def d103 : List AVal → Heap → Option (List Int × List (Nat × Nat) × List Nat)
  | [.d (.list _ n g _)], _ => some (rng n fun i => dInt (g i), [], [])
  | _, _ => none
def V103 (l : List Int) : Prop := fnVC Try.prog A69 Try.f103 (bodyOf Try.f103) (C103.xs l) (heapOf []) (C103.val l) (C103.keep l) [(0, 4032)] []
theorem vc103 (l : List Int) : (V103 l) = ((Nat.succ 0).le l.length ∧ ((0 = 0 ∧ (0 < 0 → 1 = 1)) ∧ (True ∧ (0 < l.length → 1 = 1)) ∧ (false = true → 0 < l.length) ∧ 0 + l.length ≤ 9223372036854775807 ∧ (0 + l.length) * 8
 ≤ 140737488355328) ∧ 0 = 0 ∧ l.length = 0 + l.length ∧ l.length = 0 + l.length ∧ ∀ (i : Nat), i < l.length → gD l i = gD l (i - 0)) := by kernel_rfl
theorem p103 (l : List Int) (h : 0 < l.length ∧ l.length ≤ 1000) : V103 l := by
  rw [vc103]; simp only [condP, eq_self, implies_true, and_self, true_and, and_true, true_implies, forall_const, decide_eq_true_eq, decide_eq_false_iff_not, Int.toNat_natCast, dSpan_eSpan, dReach_eReach, dWay_eWay, dStep_eStep, dFar_eFar, dInt_eInt, Nat.zero_add, Int.zero_sub, Nat.le_eq, Nat.succ_eq_add_one, Nat.add_one_le_iff, Bool.not_eq_true', Bool.not_eq_false', rng_length, dSpan_mk, dReach_mk, dWay_mk, dStep_mk, dFar_mk, rng_getD]
  exact ⟨h.1, ⟨fun _ => h.1, by omega, by omega⟩, fun _ _ => rfl⟩
theorem ok103 : SpecOk Try.prog 103 (C103.spec d103) := okC C103 (fun _ => A69) [(0, 4032)] [] Try.func103 (fun _ => by kernel_rfl) (fun _ => gok_nil) (fun a h => p103 a h) (fun _ => noI rfl rfl) _
def unS (a : NT) (v : AVal) (k : Nat) : List (Nat × AVal) := [(8, v), (47, .own 202 1 0 a.N.g.length), (48, .int a.N.g.length), (49, .int k)]
def unI (a : NT) (s : KL) : Prop := s.l.length = a.N.g.length ∧ (∀ i, i < a.N.g.length → gD s.l i = balAt a.N a.T i) ∧ s.k ≤ a.N.g.length
def unB (a : NT) (ag : List (Nat × Nat)) : Shape := { α := KL, dflt := default, T := fun s => ⟨unS a (.own 203 1 0 (unbK a.N a.T s.k).length) s.k, [(202, rowL a.N.g.length s.l), (203, rowL (unbK a.N a.T s.k).length (unbK a.N a.T s.k))]⟩, inv := fun s => unI a s, meas := fun s => a.N.g.length - s.k, again := ag }
def A79 (a : NT) : Ann := { ann 62 [(103, C103.spec d103)] with mt := fun id => id == 13, loops := fun id => if id = 3 then some [{ α := KL, dflt := default, T := fun s => ⟨[(3, .bptr 201 0), (5, .own 202 1 0 a.N.g.length), (15, .d (eReachesL a.N.r)), (16, .int a.N.r.length), (17, .int s.k)], [(201, truO a.T), (202, rowL a.N.g.length s.l)]⟩, inv := fun s => s.l.length = a.N.g.length ∧ s.k ≤ a.N.r.length ∧ ∀ i, i < a.N.g.length → balF i (gD s.l i) (a.N.r.drop s.k) (a.T.f.drop s.k) = balAt a.N a.T i, meas := fun s => a.N.r.length - s.k, first := [(201, 1016), (202, 2032)] }] else if id = 10 then some [{ α := KL, dflt := default, T := fun s => ⟨unS a (.d nilL) s.k, [(202, rowL a.N.g.length s.l)]⟩, inv := fun s => unI a s ∧ unbK a.N a.T s.k = [], meas := fun s => a.N.g.length - s.k }, unB a [(203, 14048)], unB a []] else none }
def C79 : Ctr := { α := NT, xs := fun a => [.d (eNetL a.N), .d (eTruthL a.T)], L := fun _ => [], val := fun a => .d (eIntsL (unbM a.N a.T)), keep := fun _ => [], pre := fun a => [checkL a.N = 0, lensOk a] }
def V79 (a : NT) : Prop := fnVC Try.prog (A79 a) Try.f79 (bodyOf Try.f79) (C79.xs a) (heapOf []) (C79.val a) [] [] [203]
abbrev z79_0 (a : NT) : List Int := rng a.T.t.length fun (i : Nat) => gD a.T.t i
abbrev z79_1 (a : NT) : Nat := (z79_0 a).length
abbrev z79_2 (a : NT) (i : Nat) : Int := gD (z79_0 a) i
abbrev z79_3 : Prop := 0 = 0
abbrev z79_4 (a : NT) : Prop := a.N.g.length = z79_1 a
abbrev z79_5 (a : NT) : Prop := a.N.r.length = a.N.r.length
abbrev z79_6 (a : NT) : Prop := ∀ (i : Nat), i < a.N.r.length → (gD a.N.r i).fr = (gD a.N.r i).fr ∧ (gD a.N.r i).to = (gD a.N.r i).to ∧ (gD a.N.r i).sp.lo = (gD a.N.r i).sp.lo ∧ (gD a.N.r i).sp.hi = (gD a.N.r i).sp.hi
abbrev z79_7 (a : NT) : Prop := (↑a.N.r.length : Int) = (↑a.N.r.length : Int)
abbrev z79_8 (a : KL) : Prop := (↑a.k : Int) = 0
abbrev z79_9 (a : NT) : Prop := a.T.f.length = a.T.f.length
abbrev z79_10 (a : NT) : Prop := ∀ (i : Nat), i < a.T.f.length → gD a.T.f i = gD a.T.f i
abbrev z79_11 (a : NT) : Prop := a.T.t.length = a.T.t.length
abbrev z79_12 (a : NT) : Prop := ∀ (i : Nat), i < a.T.t.length → gD a.T.t i = gD a.T.t i
abbrev z79_13 (a : KL) (a1 : NT) : Prop := a.l.length = a1.N.g.length
abbrev z79_14 (a : KL) (a1 : NT) : Prop := z79_13 a a1 ∧ a.k ≤ a1.N.r.length ∧ ∀ (i : Nat), i < a1.N.g.length → balF (↑i : Int) (gD a.l i) (List.drop a.k a1.N.r) (List.drop a.k a1.T.f) = balAt a1.N a1.T i
abbrev z79_15 (a : KL) (a1 : NT) : Prop := (↑a.k : Int) < (↑a1.N.r.length : Int)
abbrev z79_16 (a : KL) : Prop := 0 ≤ (↑a.k : Int)
abbrev z79_17 (a : NT) (a1 : KL) : Prop := 0 ≤ (gD a.N.r a1.k).fr ∧ (gD a.N.r a1.k).fr < (↑a.N.g.length : Int)
abbrev z79_18 (a : NT) (a1 : KL) : Nat := 0 + (gD a.N.r a1.k).fr.toNat
abbrev z79_19 (a : KL) (a1 : NT) : Prop := z79_16 a ∧ (↑a.k : Int) < (↑a1.T.f.length : Int)
abbrev z79_20 (a : NT) (a1 : KL) : Prop := 0 ≤ (gD a.N.r a1.k).to ∧ (gD a.N.r a1.k).to < (↑a.N.g.length : Int)
abbrev z79_21 (a : NT) (a1 : KL) : Nat := 0 + (gD a.N.r a1.k).to.toNat
abbrev z79_22 (a : NT) : Prop := a.N.g.length = a.N.g.length
abbrev z79_23 (a : KL) (a1 : KL) : Prop := (↑a.k : Int) = IntKind.i64.wrap ((↑a1.k : Int) + 1)
abbrev z79_24 (a : KL) (a1 : NT) : Int := IntKind.i64.wrap (gD a.l (z79_18 a1 a) - gD a1.T.f a.k)
abbrev z79_25 (a : NT) (a1 : KL) : Nat := a.N.r.length - a1.k
abbrev z79_26 : Prop := ∀ (i : Nat), i < 0 → false = false
abbrev z79_27 (a : NT) : Prop := (↑a.N.g.length : Int) = (↑a.N.g.length : Int)
abbrev z79_28 (a : NT) (a1 : KL) (a2 : KL) : Prop := ∀ (i : Nat), i < a.N.g.length → gD a1.l i = gD a2.l i
abbrev z79_29 (a : NT) (a1 : KL) (a2 : KL) : Prop := z79_22 a ∧ z79_28 a a1 a2
abbrev z79_30 (a : KL) (a1 : NT) : Prop := z79_13 a a1 ∧ (∀ (i : Nat), i < a1.N.g.length → gD a.l i = balAt a1.N a1.T i) ∧ a.k ≤ a1.N.g.length
abbrev z79_31 (a : KL) (a1 : NT) : Prop := z79_30 a a1 ∧ unbK a1.N a1.T a.k = []
abbrev z79_32 (a : KL) (a1 : NT) : Prop := (↑a.k : Int) < (↑a1.N.g.length : Int)
abbrev z79_33 (a : KL) (a1 : NT) : Bool := decide (z79_32 a a1)
abbrev z79_34 (a : KL) : Nat := 0 + a.k
abbrev z79_35 (a : KL) (a1 : NT) : Prop := (z79_16 a ∧ z79_32 a a1) ∧ (z79_34 a).succ.le a1.N.g.length
abbrev z79_36 (a : KL) : Bool := gD a.l (z79_34 a) != 0
abbrev z79_37 : Prop := 0 < 1
abbrev z79_38 : Prop := 1 = 1
abbrev z79_39 : Prop := 1 ≤ 1 ∧ (z79_37 → z79_38)
abbrev z79_40 (a : NT) (a1 : KL) : Prop := (unbK a.N a.T a1.k).length = 1
abbrev z79_41 (i : Nat) (a : NT) (a1 : KL) : Prop := i < (unbK a.N a.T a1.k).length
abbrev z79_42 (a : NT) (a1 : KL) (i : Nat) : Int := gD (unbK a.N a.T a1.k) i
abbrev z79_43 (a : NT) (a1 : KL) : Nat := (unB a [(203, 14048)]).meas a1
abbrev z79_44 (a : NT) (a1 : KL) : Nat := a.N.g.length - a1.k
abbrev z79_45 (a : NT) : Prop := (unbM a.N a.T).length = 0
abbrev z79_46 (a : NT) (a1 : KL) : Nat := (unbK a.N a.T a1.k).length + 1
abbrev z79_47 (a : NT) (a1 : KL) : Prop := ((unbK a.N a.T a1.k).length = (unbK a.N a.T a1.k).length ∧ (0 < (unbK a.N a.T a1.k).length → z79_38)) ∧ z79_39 ∧ (false = true → z79_37) ∧ z79_46 a a1 ≤ 9223372036854775807 ∧
 z79_46 a a1 * 8 ≤ 140737488355328
abbrev z79_48 (a : NT) (a1 : KL) (a2 : KL) : Prop := (unbK a.N a.T a1.k).length = z79_46 a a2
abbrev z79_49 (a : NT) (a1 : KL) (a2 : KL) : Prop := z79_3 ∧ z79_48 a a1 a2 ∧ z79_3 ∧ z79_22 a ∧ z79_27 a ∧ z79_23 a1 a2 ∧ z79_22 a ∧ z79_28 a a1 a2 ∧ z79_48 a a1 a2 ∧ ∀ (i : Nat), z79_41 i a a1 → z79_42 a a1 i = bif
 decide (z79_41 i a a2) then z79_42 a a2 i else (↑a2.k : Int)
abbrev z79_50 (a : NT) (a1 : KL) (a2 : KL) : Prop := (unbK a.N a.T a1.k).length = (unbK a.N a.T a2.k).length
abbrev z79_51 (a : NT) (a1 : KL) (a2 : KL) : Prop := z79_3 ∧ z79_50 a a1 a2 ∧ z79_3 ∧ z79_22 a ∧ z79_27 a ∧ z79_23 a1 a2 ∧ z79_22 a ∧ z79_28 a a1 a2 ∧ z79_50 a a1 a2 ∧ ∀ (i : Nat), z79_41 i a a1 → z79_42 a a1 i = z79_42
 a a2 i
abbrev z79_52 (a : NT) (a1 : KL) : Prop := (unbM a.N a.T).length = (unbK a.N a.T a1.k).length ∧ 0 + (unbK a.N a.T a1.k).length ≤ (unbK a.N a.T a1.k).length ∧ ∀ (j : Nat), j < (unbM a.N a.T).length → gD (unbM a.N a.T) j =
 gD (unbK a.N a.T a1.k) (0 + j)
theorem vc79 (a : NT) : (V79 a) = ((z79_1 a = a.T.t.length ∧ (∀ (i : Nat), i < z79_1 a → z79_2 a i = gD a.T.t i) ∧ 0 < z79_1 a ∧ z79_1 a ≤ 1000) ∧ (∃ (a_1 : KL), (z79_3 ∧ z79_4 a ∧ z79_5 a ∧ z79_6 a ∧ z79_7 a ∧ z79_8 a_1
 ∧ z79_9 a ∧ z79_10 a ∧ z79_11 a ∧ z79_12 a ∧ z79_4 a ∧ ∀ (i : Nat), i < a.N.g.length → gD a_1.l i = z79_2 a i) ∧ z79_14 a_1 a) ∧ ∀ (a_1 : KL), z79_14 a_1 a → bif decide (z79_15 a_1 a) then (z79_16 a_1 ∧ z79_15 a_1 a) ∧
 (z79_17 a a_1 ∧ z79_18 a a_1 < a.N.g.length ∧ z79_19 a_1 a ∧ z79_17 a a_1 ∧ (z79_18 a a_1).succ.le a.N.g.length) ∧ (z79_20 a a_1 ∧ z79_21 a a_1 < a.N.g.length ∧ z79_19 a_1 a ∧ z79_20 a a_1 ∧ (z79_21 a a_1).succ.le
 a.N.g.length) ∧ ∃ (a_3 : KL), (z79_3 ∧ z79_22 a ∧ z79_5 a ∧ z79_6 a ∧ z79_7 a ∧ z79_23 a_3 a_1 ∧ z79_9 a ∧ z79_10 a ∧ z79_11 a ∧ z79_12 a ∧ z79_22 a ∧ ∀ (i : Nat), i < a.N.g.length → gD a_3.l i = bif decide (i = z79_21 a
 a_1) then IntKind.i64.wrap ((bif decide (z79_21 a a_1 = z79_18 a a_1) then z79_24 a_1 a else gD a_1.l (z79_21 a a_1)) + gD a.T.f a_1.k) else bif decide (i = z79_18 a a_1) then z79_24 a_1 a else gD a_1.l i) ∧ z79_14 a_3 a
 ∧ z79_25 a a_3 < z79_25 a a_1 else (∃ (a_3 : KL), (z79_3 ∧ z79_26 ∧ z79_3 ∧ z79_22 a ∧ z79_27 a ∧ z79_8 a_3 ∧ z79_29 a a_3 a_1) ∧ z79_31 a_3 a) ∧ (∀ (a_3 : KL), z79_31 a_3 a → bif z79_33 a_3 a then z79_35 a_3 a ∧ bif
 z79_36 a_3 then ((True ∧ (0 < 0 → 0 = 1)) ∧ z79_39 ∧ (true = true → z79_37) ∧ 1 ≤ 9223372036854775807 ∧ 8 ≤ 140737488355328) ∧ ∃ (a_5 : KL), (z79_3 ∧ z79_40 a a_5 ∧ z79_3 ∧ z79_22 a ∧ z79_27 a ∧ z79_23 a_5 a_3 ∧ z79_22 a
 ∧ z79_28 a a_5 a_3 ∧ z79_40 a a_5 ∧ ∀ (i : Nat), z79_41 i a a_5 → z79_42 a a_5 i = (↑a_3.k : Int)) ∧ z79_30 a_5 a ∧ z79_43 a a_5 < z79_44 a a_3 else ∃ (a_5 : KL), (z79_3 ∧ z79_26 ∧ z79_3 ∧ z79_22 a ∧ z79_27 a ∧ z79_23
 a_5 a_3 ∧ z79_29 a a_5 a_3) ∧ z79_31 a_5 a ∧ z79_44 a a_5 < z79_44 a a_3 else z79_45 a ∧ z79_45 a) ∧ (∀ (a_3 : KL), z79_30 a_3 a → bif z79_33 a_3 a then z79_35 a_3 a ∧ bif z79_36 a_3 then z79_47 a a_3 ∧ ∃ (a_5 : KL),
 z79_49 a a_5 a_3 ∧ z79_30 a_5 a ∧ z79_43 a a_5 < z79_43 a a_3 else ∃ (a_5 : KL), z79_51 a a_5 a_3 ∧ z79_30 a_5 a ∧ (unB a []).meas a_5 < z79_43 a a_3 else z79_52 a a_3) ∧ ∀ (a_3 : KL), z79_30 a_3 a → bif z79_33 a_3 a
 then z79_35 a_3 a ∧ bif z79_36 a_3 then z79_47 a a_3 ∧ ∃ (a_5 : KL), z79_49 a a_5 a_3 ∧ z79_30 a_5 a ∧ z79_43 a a_5 < (unB a []).meas a_3 else ∃ (a_5 : KL), z79_51 a a_5 a_3 ∧ z79_30 a_5 a ∧ (unB a []).meas a_5 < (unB a
 []).meas a_3 else z79_52 a a_3) := by kernel_rfl
theorem unbK_succ (N : NetL) (T : TruthL) (k : Nat) : unbK N T (k + 1) = if unbB N T k then unbK N T k ++ [(k : Int)] else unbK N T k := by
  unfold unbK
  rw [List.range_succ, List.filter_append, List.map_append]
  by_cases h : unbB N T k = true
  · simp [h]
  · simp [h]
theorem unbK_len (N : NetL) (T : TruthL) (k : Nat) : (unbK N T k).length ≤ k := by
  unfold unbK; rw [List.length_map]; exact Nat.le_trans (List.length_filter_le _ _) (by simp)
theorem unB_meas (a : NT) (ag : List (Nat × Nat)) (s : KL) : (unB a ag).meas s = a.N.g.length - s.k := rfl
theorem p79 (a : NT) (h1 : checkL a.N = 0) (h2 : lensOk a) : V79 a := by
  rw [vc79]; delta z79_0 z79_1 z79_2 z79_3 z79_4 z79_5 z79_6 z79_7 z79_8 z79_9 z79_10 z79_11 z79_12 z79_13 z79_14 z79_15 z79_16 z79_17 z79_18 z79_19 z79_20 z79_21 z79_22 z79_23 z79_24 z79_25 z79_26 z79_27 z79_28 z79_29 z79_30 z79_31 z79_32 z79_33 z79_34 z79_35 z79_36 z79_37 z79_38 z79_39 z79_40 z79_41 z79_42 z79_43 z79_44 z79_45 z79_46 z79_47 z79_48 z79_49 z79_50 z79_51 z79_52; simp only [condP, eq_self, implies_true, and_self, true_and, and_true, true_implies, forall_const, decide_eq_true_eq, decide_eq_false_iff_not, Int.toNat_natCast, dSpan_eSpan, dReach_eReach, dWay_eWay, dStep_eStep, dFar_eFar, dInt_eInt, Nat.zero_add, Int.zero_sub, Nat.le_eq, Nat.succ_eq_add_one, Nat.add_one_le_iff, Bool.not_eq_true', Bool.not_eq_false', rng_length, dSpan_mk, dReach_mk, dWay_mk, dStep_mk, dFar_mk, rng_getD, unB_meas, DL.d1, DL.d2, DL.d7, DL.d8]
  have hg := good_of h1
  have g1 := hg.g1
  have g8 := hg.g8
  have r14 := hg.r14
  obtain ⟨e1, e2⟩ := h2
  refine ⟨⟨by omega, by omega⟩, ⟨⟨0, a.T.t⟩, ⟨by omega, rfl, by omega, fun _ _ => rfl⟩, e2, Nat.zero_le _, fun i _ => rfl⟩, fun s ⟨q1, q2, q3⟩ => ⟨fun hlt => ?_, fun hge => ⟨⟨⟨0, s.l⟩, ⟨rfl, fun _ _ => rfl⟩, ⟨q1, fun i hi => ?_, Nat.zero_le _⟩, rfl⟩, ?ca, ?cb⟩⟩⟩
  · have hk : s.k < a.N.r.length := by omega
    obtain ⟨_, hf, ht, hne⟩ := hg.r s.k hk
    have f1 : (gD a.N.r s.k).fr.toNat < a.N.g.length := by omega
    have f2 : (gD a.N.r s.k).to.toNat < a.N.g.length := by omega
    have f3 : (gD a.N.r s.k).to.toNat ≠ (gD a.N.r s.k).fr.toNat := by omega
    refine ⟨⟨by omega, hlt⟩, ⟨hf, f1, ⟨by omega, by omega⟩, hf, f1⟩, ⟨ht, f2, ⟨by omega, by omega⟩, ht, f2⟩, ⟨s.k + 1, (s.l.modify (gD a.N.r s.k).fr.toNat fun x => wr (x - gD a.T.f s.k)).modify (gD a.N.r s.k).to.toNat fun x => wr (x + gD a.T.f s.k)⟩, ⟨(wsucc (by omega)).symm, fun i hi => ?_⟩, ⟨by simp [q1], by show s.k + 1 ≤ _; omega, fun i hi => ?_⟩, by show _ - (s.k + 1) < _; omega⟩
    · show gD ((s.l.modify _ _).modify _ _) i = _
      rw [gD_modify (by simp [q1]; omega), gD_modify (by omega), gD_modify (by omega)]
      simp only [f3, decide_false, cond_false, if_false]
      by_cases x1 : i = (gD a.N.r s.k).to.toNat
      · subst x1; simp
      · by_cases x2 : i = (gD a.N.r s.k).fr.toNat
        · subst x2; simp [x1]
        · simp [x1, x2]
    · have := q3 i hi
      rw [drop_gD (l := a.N.r) (by omega), drop_gD (l := a.T.f) (by omega)] at this
      rw [← this]
      show balF i (gD ((s.l.modify _ _).modify _ _) i) _ _ = balF i (balS i (gD s.l i) _ _) _ _
      congr 1
      rw [gD_modify (by simp [q1]; omega), gD_modify (by omega), gD_modify (by omega)]
      unfold balS
      by_cases x1 : i = (gD a.N.r s.k).to.toNat
      · have y1 : (gD a.N.r s.k).to = i := by omega
        have y2 : ¬ (gD a.N.r s.k).fr = i := by omega
        rw [if_pos x1, if_neg f3, if_neg y2, if_pos y1, x1]
      · have y1 : ¬ (gD a.N.r s.k).to = i := by omega
        rw [if_neg x1]
        by_cases x2 : i = (gD a.N.r s.k).fr.toNat
        · have y2 : (gD a.N.r s.k).fr = i := by omega
          rw [if_pos x2, if_pos y2, x2]
        · have y2 : ¬ (gD a.N.r s.k).fr = i := by omega
          rw [if_neg x2, if_neg y2, if_neg y1]
  · have := q3 i hi
    rw [List.drop_eq_nil_of_le (by omega)] at this
    rw [← this]; unfold balF; rfl
  case ca =>
    intro s ⟨⟨w1, w2, w3⟩, hn⟩
    refine ⟨fun hlt => ⟨⟨⟨by omega, hlt⟩, by omega⟩, fun hb => ?_, fun hb => ?_⟩, fun hge => ?_⟩
    · have hu : unbB a.N a.T s.k = true := by rw [w2 _ (by omega)] at hb; unfold unbB; simpa using hb
      have e : unbK a.N a.T (s.k + 1) = [(s.k : Int)] := by rw [unbK_succ, if_pos hu, hn]; rfl
      refine ⟨⟨by decide, by decide, by decide, by decide, by decide⟩, ⟨s.k + 1, s.l⟩, ⟨by show (unbK a.N a.T (s.k + 1)).length = 1; rw [e]; rfl, (wsucc (by omega)).symm, fun _ _ => rfl, by show (unbK a.N a.T (s.k + 1)).length = 1; rw [e]; rfl, fun i hi => ?_⟩, ⟨w1, w2, by show s.k + 1 ≤ _; omega⟩, by show _ - (s.k + 1) < _; omega⟩
      have hi : i < (unbK a.N a.T (s.k + 1)).length := hi
      show gD (unbK a.N a.T (s.k + 1)) i = _
      rw [e] at hi ⊢
      have : i = 0 := by simpa using hi
      subst this; rfl
    · have hu : unbB a.N a.T s.k = false := by rw [w2 _ (by omega)] at hb; unfold unbB; simpa using hb
      have e : unbK a.N a.T (s.k + 1) = [] := by rw [unbK_succ, hu, hn]; rfl
      exact ⟨⟨s.k + 1, s.l⟩, ⟨(wsucc (by omega)).symm, fun _ _ => rfl⟩, ⟨⟨w1, w2, by show s.k + 1 ≤ _; omega⟩, e⟩, by show _ - (s.k + 1) < _; omega⟩
    · have : s.k = a.N.g.length := by omega
      unfold unbM; rw [← this, hn]; rfl
  case cb =>
    intro s ⟨w1, w2, w3⟩
    have hle := unbK_len a.N a.T s.k
    refine ⟨fun hlt => ⟨⟨⟨by omega, hlt⟩, by omega⟩, fun hb => ?_, fun hb => ?_⟩, fun hge => ?_⟩
    · have hu : unbB a.N a.T s.k = true := by rw [w2 _ (by omega)] at hb; unfold unbB; simpa using hb
      have e : unbK a.N a.T (s.k + 1) = unbK a.N a.T s.k ++ [(s.k : Int)] := by rw [unbK_succ, if_pos hu]
      refine ⟨⟨by decide, by decide, by omega, by omega⟩, ⟨s.k + 1, s.l⟩, ⟨by show (unbK a.N a.T (s.k + 1)).length = _; rw [e]; simp, (wsucc (by omega)).symm, fun _ _ => rfl, by show (unbK a.N a.T (s.k + 1)).length = _; rw [e]; simp, fun i hi => ?_⟩, ⟨w1, w2, by show s.k + 1 ≤ _; omega⟩, by show _ - (s.k + 1) < _; omega⟩
      have hi : i < (unbK a.N a.T (s.k + 1)).length := hi
      show gD (unbK a.N a.T (s.k + 1)) i = _
      rw [e] at hi ⊢
      rw [gD_append]
      by_cases hi2 : i < (unbK a.N a.T s.k).length
      · simp [hi2]
      · have : i - (unbK a.N a.T s.k).length = 0 := by simp at hi; omega
        simp only [hi2, if_false, decide_false, cond_false, this]; rfl
    · have hu : unbB a.N a.T s.k = false := by rw [w2 _ (by omega)] at hb; unfold unbB; simpa using hb
      have e : unbK a.N a.T (s.k + 1) = unbK a.N a.T s.k := by rw [unbK_succ, hu]; rfl
      exact ⟨⟨s.k + 1, s.l⟩, ⟨by show (unbK a.N a.T (s.k + 1)).length = _; rw [e], (wsucc (by omega)).symm, fun _ _ => rfl, by show (unbK a.N a.T (s.k + 1)).length = _; rw [e], fun i _ => by show gD (unbK a.N a.T (s.k + 1)) i = _; rw [e]⟩, ⟨w1, w2, by show s.k + 1 ≤ _; omega⟩, by show _ - (s.k + 1) < _; omega⟩
    · have : s.k = a.N.g.length := by omega
      unfold unbM; rw [← this]
      exact ⟨rfl, Nat.le_refl _, fun _ _ => rfl⟩
theorem ok79 : SpecOk Try.prog 79 (C79.spec d78) := okC C79 A79 [] [203] Try.func79 (fun _ => by kernel_rfl) (fun _ => gok_cons ok103 gok_nil) (fun a h => p79 a h.1 h.2) (fun _ => noI rfl rfl) _
theorem askM_zero {N : NetL} {T : TruthL} (h : askM N T = 0) : checkL N = 0 ∧ (T.f.length = N.r.length ∧ T.t.length = N.g.length) ∧ (∀ i, i < T.f.length → -100000000 ≤ gD T.f i ∧ gD T.f i ≤ 100000000) ∧ ∀ i, i < T.t.length → -100000000 ≤ gD T.t i ∧ gD T.t i ≤ 100000000 := by
  unfold askM at h
  by_cases hc : checkL N = 0
  · rw [if_pos hc] at h
    split at h
    · rename_i hl
      split at h
      · rename_i hb
        simp only [Bool.and_eq_true] at hb
        exact ⟨hc, hl, fun i hi => inM_iff.1 (allB_iff.1 hb.1 i hi), fun i hi => inM_iff.1 (allB_iff.1 hb.2 i hi)⟩
      · cases h
    · cases h
  · rw [if_neg hc] at h; exact absurd h hc
end Go.Bal
